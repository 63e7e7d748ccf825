import Derived.Test.YtpafhhgoldenoaaInserts2
import Derived.Lib.Hide
import Derived.WalkMore
/- Laws that the proof of Inserts uses. -/
section
namespace Go.Proofs.Ytpafhhgoldenoaa.P
open Go.RowKit Go.Proofs.YtpafhhgoldenoaaW.PrintWords Go.Proofs.YtpafhhgoldenoaaW.PrintLast Go.Proofs.YtpafhhgoldenoaaW.PrintMore
open Go.Proofs.Ytpafhhgoldenoaa.XM
set_option linter.unusedVariables false
set_option linter.unusedSimpArgs false
theorem Ev.ite {α : Type} {c : Prop} [Decidable c] {f g : Nat → Option α} {r : α} (h1 : c → Ev f r) (h2 : ¬ c → Ev g r) : Ev (fun k => if c then f k else g k) r := by
 by_cases h : c
 ·simpa [h] using h1 h
 ·simpa [h] using h2 h
theorem Ev.thn {α : Type} {c : Prop} [Decidable c] {f g : Nat → Option α} {r : α} (h : c) (h1 : Ev f r) : Ev (fun k => if c then f k else g k) r := by simpa [h] using h1
theorem Ev.els {α : Type} {c : Prop} [Decidable c] {f g : Nat → Option α} {r : α} (h : ¬ c) (h1 : Ev g r) : Ev (fun k => if c then f k else g k) r := by simpa [h] using h1
theorem Ev.obind {α β : Type} {x : Option α} {a : α} {f : Nat → α → Option β} {r : β} (h : x = some a) (k : Ev (fun n => f n a) r) : Ev (fun n => x.bind (f n)) r := by subst h; simpa using k
theorem Ev.const {α : Type} {x : Option α} {r : α} (h : x = some r) : Ev (fun _ => x) r := by subst h; exact Ev.now r
theorem Ev.up {α : Type} {g : Nat → Option α} {r : α} (h : Ev (fun k => g (k + 1)) r) : Ev g r := Ev.step (fun k => rfl) h
theorem refID_f (a : Int) : formeref10_ID.f a = some (idB a) := by
 unfold formeref10_ID.f idB
 by_cases h : a ≥ 1
 ·simp [h]
 ·have h' : ¬ (1 ≤ a) := h
  simp [h']
theorem refClass (c : Int) : ∃ r, (r = 0 ↔ (c < 32 ∨ 126 < c)) ∧ Ev (fun k => formeref06_Class.f k c) r := by
 have key : ∃ r, (r = 0 ↔ (c < 32 ∨ 126 < c)) ∧ ∀ k, formeref06_Class.f (k + 3) c = some r := by
  simp only [formeref06_Class.f, formeref06_Class.j0, formeref06_Class.j1, formeref06_Class.j2]
  by_cases a1 : c < 32
  ·have g1 : ¬ c ≥ 97 := by omega
   have g2 : ¬ c ≥ 65 := by omega
   have g3 : ¬ c ≥ 48 := by omega
   have g7 : ¬ c = 32 := by omega
   have g8 : ¬ c = 126 := by omega
   have g9 : ¬ c > 32 := by omega
   exact ⟨0, by omega, fun k => by simp only [g1, g2, g3, g7, g8, g9, if_false, Bool.false_eq_true]⟩
  by_cases a2 : 126 < c
  ·have g1 : c ≥ 97 := by omega
   have g2 : c ≥ 65 := by omega
   have g3 : c ≥ 48 := by omega
   have g4 : ¬ c ≤ 122 := by omega
   have g5 : ¬ c ≤ 90 := by omega
   have g6 : ¬ c ≤ 57 := by omega
   have g7 : ¬ c = 32 := by omega
   have g8 : ¬ c = 126 := by omega
   have g9 : ¬ c < 126 := by omega
   have g10 : c > 32 := by omega
   exact ⟨0, by omega, fun k => by simp only [g1, g2, g3, g4, g5, g6, g7, g8, g9, g10, if_false, if_true, decide_false, Bool.false_eq_true]⟩
  have e : ∀ r : Int, r ≠ 0 → (r = 0 ↔ (c < 32 ∨ 126 < c)) := fun r h => by omega
  by_cases b1 : 97 ≤ c
  ·rw [if_pos (by omega)]
   by_cases b2 : c ≤ 122
   ·exact ⟨1, e _ (by omega), fun k => by simp [b2]⟩
   ·rw [show decide (c ≤ 122) = false by simp; omega]
    by_cases b3 : c = 126
    ·exact ⟨6, e _ (by omega), fun k => by subst b3; simp⟩
    ·exact ⟨5, e _ (by omega), fun k => by simp; rw [if_pos (by omega), if_neg (by omega), if_pos (by omega), if_neg (by omega), if_neg (by omega), if_neg b3, if_pos (by omega), if_pos (by omega)]⟩
  ·rw [if_neg (by omega)]
   by_cases b2 : 65 ≤ c
   ·by_cases b3 : c ≤ 90
    ·exact ⟨2, e _ (by omega), fun k => by simp [b2, b3]⟩
    ·exact ⟨5, e _ (by omega), fun k => by simp [b2, b3]; rw [if_pos (by omega), if_neg (by omega), if_neg (by omega), if_neg (by omega), if_pos (by omega), if_pos (by omega)]⟩
   ·by_cases b3 : 48 ≤ c
    ·by_cases b4 : c ≤ 57
     ·exact ⟨3, e _ (by omega), fun k => by simp [b2, b3, b4]⟩
     ·exact ⟨5, e _ (by omega), fun k => by simp [b2, b3, b4]; rw [if_neg (by omega), if_neg (by omega), if_pos (by omega), if_pos (by omega)]⟩
    ·by_cases b4 : c = 32
     ·exact ⟨4, e _ (by omega), fun k => by subst b4; simp⟩
     ·exact ⟨5, e _ (by omega), fun k => by simp [b2, b3]; rw [if_neg b4, if_neg (by omega), if_pos (by omega), if_pos (by omega)]⟩
 obtain ⟨r, h1, h2⟩ := key
 exact ⟨r, h1, 3, fun k hk => by obtain ⟨m, rfl⟩ : ∃ m, k = m + 3 := ⟨k - 3, by omega⟩; exact h2 m⟩
theorem w64n (i : Nat) (h : i < 9223372036854775807) : wrap64 ((i : Int) + 1) = ((i + 1 : Nat) : Int) := by unfold wrap64; omega
theorem bt_nat (s : ByteArray) (i : Nat) (h : i < s.size) : bt s (i : Int) = (s[i].toNat : Int) := by
 have e : (i : Int).toNat = i := by omega
 simp [bt, e, h]
theorem refText_go (s : ByteArray) (hs : s.size ≤ 9223372036854775807) : ∀ (d i : Nat), i ≤ s.size → s.size - i ≤ d → (∀ j (h : j < s.size), j < i → okByte s[j] = true) →
  Ev (fun k => formeref06_Valid.l0 k s i) (okText s) := by
 intro d
 induction d with
 | zero =>
  intro i hi hd ha
  obtain rfl : i = s.size := by omega
  refine Ev.up ?_
  simp only [formeref06_Valid.l0]
  refine Ev.els (by omega) (Ev.const ?_)
  congr 1
  rw [Bool.eq_iff_iff, okText_iff]
  simp only [decide_eq_true_eq]
  exact ⟨fun h => ⟨fun j hj => ha j hj hj, by omega⟩, fun h => by omega⟩
 | succ d ih =>
  intro i hi hd ha
  by_cases hlt : i < s.size
  ·refine Ev.up ?_
   simp only [formeref06_Valid.l0]
   refine Ev.thn (by omega) (Ev.thn (by omega) ?_)
   obtain ⟨r, hr, hv⟩ := refClass (bt s i)
   rw [bt_nat s i hlt] at hr
   refine Ev.bind hv ?_
   by_cases h0 : r = 0
   ·refine Ev.thn h0 (Ev.const ?_)
    rw [okText_bad s i hlt (by have := hr.1 h0; omega)]
   ·refine Ev.els h0 ?_
    rw [w64n i (by omega)]
    refine ih (i + 1) (by omega) (by omega) ?_
    intro j hj hji
    by_cases e : j = i
    ·subst e
     exact okByte_of (by have : ¬ _ := fun x => h0 (hr.2 x); omega)
    ·exact ha j hj (by omega)
  ·obtain rfl : i = s.size := by omega
   refine Ev.up ?_
   simp only [formeref06_Valid.l0]
   refine Ev.els (by omega) (Ev.const ?_)
   congr 1
   rw [Bool.eq_iff_iff, okText_iff]
   simp only [decide_eq_true_eq]
   exact ⟨fun h => ⟨fun j hj => ha j hj hj, by omega⟩, fun h => by omega⟩
theorem refText (s : ByteArray) (hs : s.size ≤ 9223372036854775807) : Ev (fun k => formeref06_Valid.f k s) (okText s) :=
 refText_go s hs s.size 0 (by omega) (by omega) (fun j h hj => by omega)
theorem formedB_iff (n : S24) : formedB n = true ↔ okText n.f4 = true ∧ idB n.f0 = true ∧ (1 ≤ n.f2 ∧ n.f2 ≤ 11) ∧ (0 ≤ n.f3 ∧ n.f3 ≤ 100) ∧ (0 ≤ n.f1 ∧ n.f1 ≤ 1000000) ∧ (n.f4.toList = [] ∨ n.f2 = 2 ∨ n.f2 = 11) := by
 unfold formedB tree_formed.f text_Valid.f
 simp only [idB_f, Option.bind_some]
 have hp : idB n.f1 = true ↔ 1 ≤ n.f1 ∧ n.f1 ≤ 1000000 := by simp [idB]
 generalize idB n.f0 = A at *
 generalize idB n.f1 = B at *
 generalize okText n.f4 = C at *
 constructor
 ·intro h
  repeat' split at h
  all_goals simp at h
  all_goals simp_all
  all_goals omega
 ·rintro ⟨h1, h2, h3, h4, h5, h6⟩
  repeat' split
  all_goals simp_all
  all_goals omega
theorem refNode (n : S24) (hs : n.f4.size ≤ 9223372036854775807) : Ev (fun k => formeref10_Node.f k n.f0 n.f1 n.f2 n.f3 n.f4) (formedB n) := by
 simp only [formeref10_Node.f]
 refine Ev.bind (refText n.f4 hs) ?_
 rw [refID_f]
 simp only [Option.bind_some]
 refine Ev.const ?_
 have hf := formedB_iff n
 generalize formedB n = F at *
 generalize idB n.f0 = A at *
 generalize okText n.f4 = C at *
 have hF : F = decide (C = true ∧ A = true ∧ (1 ≤ n.f2 ∧ n.f2 ≤ 11) ∧ (0 ≤ n.f3 ∧ n.f3 ≤ 100) ∧ (0 ≤ n.f1 ∧ n.f1 ≤ 1000000) ∧ (n.f4.toList = [] ∨ n.f2 = 2 ∨ n.f2 = 11)) := by
  rw [Bool.eq_iff_iff, hf]; simp
 rw [hF]
 repeat' split
 all_goals simp_all
 all_goals first
  | (rw [Bool.eq_iff_iff]; simp; done)
  | (intros; exfalso; omega)
abbrev nd (l : List S24) (j : Nat) : S24 := rd_T24 l (j : Int)
theorem refIndex_go (l : List S24) (a : Int) (hl : l.length ≤ 4000) : ∀ (d i : Nat), i ≤ l.length → l.length - i ≤ d → (∀ j, j < i → (nd l j).f0 ≠ a) →
  Ev (fun k => formeref10_Index.l0 k l a i) (ixFind (fun n => decide (n.f0 = a)) l) := by
 intro d
 induction d with
 | zero =>
  intro i hi hd ha
  refine Ev.up ?_
  simp only [formeref10_Index.l0]
  refine Ev.els (by omega) (Ev.const ?_)
  rw [ixFind_none (fun j hj => by simpa using ha j (by omega))]
 | succ d ih =>
  intro i hi hd ha
  by_cases hlt : i < l.length
  ·refine Ev.up ?_
   simp only [formeref10_Index.l0]
   refine Ev.thn (by omega) (Ev.thn (by omega) ?_)
   by_cases he : (nd l i).f0 = a
   ·refine Ev.thn he (Ev.const ?_)
    rw [ixFind_at hlt (by simpa using he) (fun j hj => by simpa using ha j hj)]
   ·refine Ev.els he ?_
    rw [w64n i (by omega)]
    refine ih (i + 1) (by omega) (by omega) (fun j hj => ?_)
    by_cases e : j = i
    ·subst e; exact he
    ·exact ha j (by omega)
  ·refine Ev.up ?_
   simp only [formeref10_Index.l0]
   refine Ev.els (by omega) (Ev.const ?_)
   rw [ixFind_none (fun j hj => by simpa using ha j (by omega))]
theorem refIndex (l : List S24) (a : Int) (hl : l.length ≤ 4000) : Ev (fun k => formeref10_Index.f k l a) (ixFind (fun n => decide (n.f0 = a)) l) :=
 refIndex_go l a hl l.length 0 (by omega) (by omega) (fun j hj => by omega)
theorem nd_take {l : List S24} {i j : Nat} (h : j < i) : nd (l.take i) j = nd l j := by
 simp [rd_T24, h]
theorem refStands (k i : Int) (h1 : 1 ≤ i) (h2 : i ≤ 11) : formeref10_Stands.f k i = some (standsB k i) := by
 unfold standsB formeref10_Stands.f tree_stands.f
 repeat' split
 all_goals first
  | (have : i = 9 := by omega); subst this; simp_all; done
  | simp_all; done
  | omega
structure TreeAt (l : List S24) (ds : Nat → Int) : Prop where
 pos : 0 < l.length
 len : l.length ≤ 4000
 form : ∀ j, j < l.length → formedB (nd l j) = true
 ids : ∀ j k, j < k → k < l.length → (nd l j).f0 ≠ (nd l k).f0
 root : (nd l 0).f1 = 0 ∧ (nd l 0).f2 = 1
 d0 : ds 0 = 1
 par : ∀ j, j < l.length → 0 < j → ∃ k, k < j ∧ (nd l k).f0 = (nd l j).f1 ∧ standsB (nd l j).f2 (nd l k).f2 = true ∧ ds j = ds k + 1
 le30 : ∀ j, j < l.length → ds j ≤ 30
theorem idB_iff (a : Int) : idB a = true ↔ 1 ≤ a ∧ a ≤ 1000000 := by simp [idB]
variable {l : List S24} {ds : Nat → Int}
theorem TreeAt.id (T : TreeAt l ds) {j : Nat} (h : j < l.length) : 1 ≤ (nd l j).f0 ∧ (nd l j).f0 ≤ 1000000 := (idB_iff _).1 ((formedB_iff _).1 (T.form j h)).2.1
theorem TreeAt.inj (T : TreeAt l ds) {j k : Nat} (hj : j < l.length) (hk : k < l.length) (h : (nd l j).f0 = (nd l k).f0) : j = k := by
 rcases Nat.lt_trichotomy j k with c | c | c
 ·exact absurd h (T.ids j k c hk)
 ·exact c
 ·exact absurd h.symm (T.ids k j c hj)
theorem TreeAt.dpos (T : TreeAt l ds) : ∀ j, j < l.length → 1 ≤ ds j ∧ ds j ≤ j + 1 := by
 intro j
 induction j using Nat.strongRecOn with
 | ind j ih =>
  intro hj
  by_cases h0 : j = 0
  ·subst h0; rw [T.d0]; omega
  ·obtain ⟨k, hk, _, _, e⟩ := T.par j hj (by omega)
   have := ih k hk (by omega)
   omega
def PAt (l : List S24) (ds : Nat → Int) (i : Nat) (D : Places) : Prop :=
 (∀ j, j < i → mlook D (nd l j).f0 = some ((j : Int), ds j)) ∧ ∀ x, (∀ j, j < i → (nd l j).f0 ≠ x) → mlook D x = none
structure PreAt (l : List S24) (ds : Nat → Int) (i : Nat) : Prop where
 form : ∀ j, j < i → formedB (nd l j) = true
 ids : ∀ j k, j < k → k < i → (nd l j).f0 ≠ (nd l k).f0
 d0 : 0 < i → ds 0 = 1
 par : ∀ j, j < i → 0 < j → ∃ k, k < j ∧ (nd l k).f0 = (nd l j).f1 ∧ standsB (nd l j).f2 (nd l k).f2 = true ∧ ds j = ds k + 1
 le30 : ∀ j, j < i → ds j ≤ 30
 ge1 : ∀ j, j < i → 1 ≤ ds j
theorem drop_nd (l : List S24) (k : Nat) (h : k < l.length) : l.drop k = nd l k :: l.drop (k + 1) := by
 rw [List.drop_eq_getElem_cons h]
 congr 1
 simp [rd_T24, h]
theorem PAt.find {l : List S24} {ds : Nat → Int} {i : Nat} {D : Places} (h : PAt l ds i D) (x : Int) : (∃ j, j < i ∧ (nd l j).f0 = x ∧ mlook D x = some ((j : Int), ds j)) ∨ ((∀ j, j < i → (nd l j).f0 ≠ x) ∧ mlook D x = none) := by
 by_cases e : ∃ j, j < i ∧ (nd l j).f0 = x
 ·obtain ⟨j, hj, e⟩ := e
  exact .inl ⟨j, hj, e, by rw [← e]; exact h.1 j hj⟩
 ·have e' : ∀ j, j < i → (nd l j).f0 ≠ x := fun j hj c => e ⟨j, hj, c⟩
  exact .inr ⟨e', h.2 x e'⟩
theorem plGo_tree (l : List S24) (hroot : (nd l 0).f1 = 0) : ∀ (d i : Nat) (D D' : Places) (ds : Nat → Int), i ≤ l.length → l.length - i ≤ d → PAt l ds i D → PreAt l ds i → plGo l i (l.drop i) D = some D' →
  ∃ ds', PAt l ds' l.length D' ∧ PreAt l ds' l.length := by
 intro d
 induction d with
 | zero =>
  intro i D D' ds hi hd hp hpre h
  obtain rfl : i = l.length := by omega
  rw [List.drop_length] at h
  simp only [plGo, Option.some.injEq] at h
  subst h
  exact ⟨ds, hp, hpre⟩
 | succ d ih =>
  intro i D D' ds hi hd hp hpre h
  by_cases hlt : i < l.length
  ·rw [drop_nd l i hlt] at h
   simp only [plGo] at h
   obtain ⟨D1, h1, h2⟩ := Option.bind_eq_some_iff.1 h
   unfold plStep at h1
   split at h1
   ·cases h1
   rename_i hform
   split at h1
   ·cases h1
   rename_i hnew
   split at h1
   ·cases h1
   rename_i hpar
   split at h1
   ·cases h1
   rename_i h30
   obtain rfl := Option.some.inj h1
   have hnone : ∀ j, j < i → (nd l j).f0 ≠ (nd l i).f0 := by
    intro j hj e
    have := hp.1 j hj
    rw [e] at this
    rw [this] at hnew
    have h1 := hpre.ge1 j hj
    simp at hnew
    have := hnew
    omega
   have hform : formedB (nd l i) = true := by simpa using hform
   obtain ⟨dv, hdv⟩ : ∃ dv : Int, dv = ((mlook D (nd l i).f1).getD (0, 0)).2 + 1 := ⟨_, rfl⟩
   have hpar' : 0 < i → ∃ k, k < i ∧ (nd l k).f0 = (nd l i).f1 ∧ standsB (nd l i).f2 (nd l k).f2 = true ∧ dv = ds k + 1 := by
    intro h0
    have hq : ¬ (mlook D (nd l i).f1 = none ∨ standsB (nd l i).f2 (rd_T24 l ((mlook D (nd l i).f1).getD (0, 0)).1).f2 = false) := fun c => hpar ⟨h0, c⟩
    rcases hp.find (nd l i).f1 with ⟨k, hk, e, hm⟩ | ⟨_, hm⟩
    ·rw [hm] at hq hdv
     exact ⟨k, hk, e, by simpa using fun c => hq (.inr c), by simpa using hdv⟩
    ·exact absurd (.inl hm) hq
   have hdv0 : i = 0 → dv = 1 := by
    intro h0
    subst h0
    rw [hp.2 _ (fun j hj => by omega)] at hdv
    simpa using hdv
   have hdvr : 1 ≤ dv ∧ dv ≤ 30 := by
    by_cases h0 : i = 0
    ·rw [hdv0 h0]; omega
    ·obtain ⟨k, hk, e, _, e2⟩ := hpar' (by omega)
     have := hpre.ge1 k hk
     have := hpre.le30 k hk
     omega
   obtain ⟨ds', hds, hdi⟩ : ∃ ds' : Nat → Int, (∀ j, j < i → ds' j = ds j) ∧ ds' i = dv := ⟨fun j => if j = i then dv else ds j, fun j hj => by simp; omega, by simp⟩
   refine ih (i + 1) _ D' ds' hlt (by clear hpar'; omega) ⟨?_, ?_⟩ ⟨?_, ?_, ?_, ?_, ?_, ?_⟩ h2
   ·intro j hj
    rw [mlook_mput]
    by_cases e : j = i
    ·subst e
     rw [if_pos rfl, hdi, hdv]
    ·rw [if_neg (fun c => hnone j (by omega) c.symm), hp.1 j (by omega), hds j (by omega)]
   ·intro x hx
    rw [mlook_mput, if_neg (hx i (by omega)), hp.2 x (fun j hj => hx j (by omega))]
   ·intro j hj
    by_cases e : j = i
    ·subst e; exact hform
    ·exact hpre.form j (by omega)
   ·intro j k hjk hk
    by_cases e : k = i
    ·subst e; exact hnone j hjk
    ·exact hpre.ids j k hjk (by omega)
   ·intro _
    by_cases e : i = 0
    ·subst e; rw [hdi, hdv0 rfl]
    ·rw [hds 0 (by omega), hpre.d0 (by omega)]
   ·intro j hj h0
    by_cases e : j = i
    ·subst e
     obtain ⟨k, hk, e1, e2, e3⟩ := hpar' h0
     exact ⟨k, hk, e1, e2, by rw [hdi, hds k hk, e3]⟩
    ·obtain ⟨k, hk, e1, e2, e3⟩ := hpre.par j (by omega) h0
     exact ⟨k, hk, e1, e2, by rw [hds j (by omega), hds k (by omega), e3]⟩
   ·intro j hj
    by_cases e : j = i
    ·subst e; rw [hdi]; omega
    ·rw [hds j (by omega)]; exact hpre.le30 j (by omega)
   ·intro j hj
    by_cases e : j = i
    ·subst e; rw [hdi]; omega
    ·rw [hds j (by omega)]; exact hpre.ge1 j (by omega)
  ·obtain rfl : i = l.length := by omega
   rw [List.drop_length] at h
   simp only [plGo, Option.some.injEq] at h
   subst h
   exact ⟨ds, hp, hpre⟩
theorem placesP_tree {l : List S24} {D : Places} (h : placesP l = some D) : ∃ ds, TreeAt l ds ∧ PAt l ds l.length D := by
 obtain ⟨h1, h2, h3, h4, h5, _⟩ := placesP_some h
 obtain ⟨ds, hp, hpre⟩ := plGo_tree l h3 l.length 0 [] D (fun _ => 0) (by omega) (by omega) ⟨fun j hj => by omega, fun x _ => rfl⟩ ⟨fun j hj => by omega, fun j k _ hk => by omega, fun h => by omega, fun j hj => by omega, fun j hj => by omega, fun j hj => by omega⟩ (by simpa using h5)
 exact ⟨ds, ⟨h1, h2, hpre.form, hpre.ids, ⟨h3, h4⟩, hpre.d0 h1, hpre.par, hpre.le30⟩, hp⟩
theorem TreeAt.goes (T : TreeAt l ds) : ∀ (d i : Nat) (D : Places), i ≤ l.length → l.length - i ≤ d → PAt l ds i D → ∃ D', plGo l i (l.drop i) D = some D' := by
 intro d
 induction d with
 | zero =>
  intro i D hi hd hp
  obtain rfl : i = l.length := by omega
  rw [List.drop_length]
  exact ⟨D, rfl⟩
 | succ d ih =>
  intro i D hi hd hp
  by_cases hlt : i < l.length
  ·rw [drop_nd l i hlt]
   simp only [plGo]
   have hnew : mlook D (nd l i).f0 = none := hp.2 _ (fun j hj => T.ids j i hj hlt)
   have key : ∃ e, plStep l i (nd l i) D = some (mput D (nd l i).f0 ((i : Int), e)) ∧ e = ds i := by
    unfold plStep
    rw [if_neg (by simpa using T.form i hlt), hnew]
    simp only [Option.getD_none, ne_eq, not_true_eq_false, if_false]
    by_cases h0 : i = 0
    ·subst h0
     rw [if_neg (by omega), hp.2 _ (fun j hj => by omega)]
     exact ⟨1, by simp, T.d0.symm⟩
    ·obtain ⟨k, hk, e1, e2, e3⟩ := T.par i hlt (by omega)
     have hm : mlook D (nd l i).f1 = some ((k : Int), ds k) := by rw [← e1]; exact hp.1 k hk
     rw [hm]
     simp only [Option.getD_some]
     rw [if_neg (by rw [show (rd_T24 l (k : Int)) = nd l k from rfl, e2]; simp), if_neg (by have := T.le30 i hlt; omega)]
     exact ⟨_, rfl, e3.symm⟩
   obtain ⟨e, he, rfl⟩ := key
   rw [he, Option.bind_some]
   refine ih (i + 1) _ (by omega) (by omega) ⟨?_, ?_⟩
   ·intro j hj
    rw [mlook_mput]
    by_cases e : j = i
    ·subst e
     rw [if_pos rfl]
    ·rw [if_neg (fun c => T.ids j i (by omega) hlt c.symm), hp.1 j (by omega)]
   ·intro x hx
    rw [mlook_mput, if_neg (hx i (by omega)), hp.2 x (fun j hj => hx j (by omega))]
  ·obtain rfl : i = l.length := by omega
   rw [List.drop_length]
   exact ⟨D, rfl⟩
theorem TreeAt.places (T : TreeAt l ds) : ∃ D, placesP l = some D := by
 unfold placesP
 have h3 : (rd_T24 l 0).f1 = 0 := T.root.1
 have h4 : (rd_T24 l 0).f2 = 1 := T.root.2
 rw [if_neg (by have := T.pos; have := T.len; omega)]
 simpa using T.goes l.length 0 [] (by omega) (by omega) ⟨fun j hj => by omega, fun x _ => rfl⟩
end Go.Proofs.Ytpafhhgoldenoaa.P
end
section
namespace Go.Proofs.Ytpafhhgoldenoaa.P
open Go.RowKit Go.Proofs.YtpafhhgoldenoaaW.PrintWords Go.Proofs.YtpafhhgoldenoaaW.PrintLast Go.Proofs.YtpafhhgoldenoaaW.PrintMore
open Go.Proofs.Ytpafhhgoldenoaa.XM
set_option linter.unusedVariables false
set_option linter.unusedSimpArgs false
variable {l : List S24} {ds : Nat → Int}
theorem ixFind_cases (p : S24 → Bool) (l : List S24) : (∃ k, k < l.length ∧ p (nd l k) = true ∧ (∀ j, j < k → p (nd l j) = false) ∧ ixFind p l = k) ∨ ((∀ j, j < l.length → p (nd l j) = false) ∧ ixFind p l = -1) := by
 cases e : l.findIdx? p with
 | none =>
  right
  have h := List.findIdx?_eq_none_iff.1 e
  have hn : ∀ j, j < l.length → p (nd l j) = false := fun j hj => by
   have : nd l j = l[j] := by simp [rd_T24, hj]
   rw [this]; exact h _ (List.getElem_mem hj)
  exact ⟨hn, ixFind_none hn⟩
 | some k =>
  left
  obtain ⟨hk, hp, hn⟩ := List.findIdx?_eq_some_iff_getElem.1 e
  refine ⟨k, hk, by simpa [rd_T24, hk] using hp, fun j hj => ?_, by unfold ixFind; rw [e]⟩
  have := hn j hj
  have hj2 : j < l.length := by omega
  simpa [rd_T24, hj2] using this
theorem no_tree (h : ∀ ds, ¬ TreeAt l ds) : (placesP l).isSome = false := by
 cases e : placesP l with
 | none => rfl
 | some D => obtain ⟨ds, T, _⟩ := placesP_tree e; exact absurd T (h ds)
structure PreD (l : List S24) (acc : List Int) (i : Nat) : Prop where
 len : acc.length = i
 root : 0 < i → (nd l 0).f1 = 0 ∧ (nd l 0).f2 = 1 ∧ rd acc 0 = 1
 par : ∀ j, j < i → 0 < j → ∃ k, k < j ∧ (nd l k).f0 = (nd l j).f1 ∧ standsB (nd l j).f2 (nd l k).f2 = true ∧ rd acc j = rd acc k + 1
 bnd : ∀ j, j < i → 1 ≤ rd acc j ∧ rd acc j ≤ j + 1
theorem rd_snoc (acc : List Int) (v : Int) (j : Nat) (h : j < acc.length) : rd (acc ++ [v]) j = rd acc j := by
 simp only [rd, Int.toNat_natCast, List.getD_eq_getElem?_getD, List.getElem?_append_left h]
theorem rd_snoc_last (acc : List Int) (v : Int) : rd (acc ++ [v]) (acc.length : Int) = v := by
 simp [rd]
theorem refDepths_go (l : List S24) (hl : l.length ≤ 4000) (hf : ∀ j, j < l.length → formedB (nd l j) = true) : ∀ (d i : Nat) (acc : List Int), i ≤ l.length → l.length - i ≤ d → PreD l acc i →
  ∃ r, Ev (fun k => formeref10_depths.l0 k l acc i) r ∧ ((r = ([], false) ∧ ∀ ds, ¬ TreeAt l ds) ∨ ∃ acc', r = (acc', true) ∧ PreD l acc' l.length) := by
 intro d
 induction d with
 | zero =>
  intro i acc hi hd hp
  refine ⟨(acc, true), Ev.up ?_, .inr ⟨acc, rfl, (show i = l.length by omega) ▸ hp⟩⟩
  simp only [formeref10_depths.l0]
  exact Ev.els (by omega) (Ev.now _)
 | succ d ih =>
  intro i acc hi hd hp
  by_cases hlt : i < l.length
  ·by_cases h0 : i = 0
   ·subst h0
    by_cases hr : (nd l 0).f1 = 0 ∧ (nd l 0).f2 = 1
    ·obtain ⟨r, hr1, hr2⟩ := ih 1 (acc ++ [1]) (by omega) (by omega) ⟨by rw [List.length_append, hp.len]; rfl, fun _ => ⟨hr.1, hr.2, by have := rd_snoc_last acc 1; rw [hp.len] at this; exact this⟩, fun j hj h => by omega, fun j hj => by
      obtain rfl : j = 0 := by omega
      have := rd_snoc_last acc 1; rw [hp.len] at this; rw [this]; omega⟩
     refine ⟨r, Ev.up ?_, hr2⟩
     simp only [formeref10_depths.l0]
     refine Ev.thn (by omega) (Ev.thn rfl (Ev.thn (by rw [hp.len]; omega) (Ev.thn (by omega) (Ev.thn hr.1 (Ev.thn hr.2 ?_)))))
     rw [w64n 0 (by omega)]
     exact hr1
    ·refine ⟨([], false), Ev.up ?_, .inl ⟨rfl, fun ds T => hr T.root⟩⟩
     simp only [formeref10_depths.l0]
     refine Ev.thn (by omega) (Ev.thn rfl (Ev.thn (by rw [hp.len]; omega) (Ev.thn (by omega) ?_)))
     by_cases h1 : (nd l 0).f1 = 0
     ·refine Ev.thn h1 (Ev.els (fun h2 => hr ⟨h1, h2⟩) (Ev.now _))
     ·exact Ev.els h1 (Ev.now _)
   ·have hI := refIndex (l.take i) (nd l i).f1 (by simp; omega)
    have hlen : (l.take i).length = i := by simp; omega
    rcases ixFind_cases (fun n => decide (n.f0 = (nd l i).f1)) (l.take i) with ⟨k, hk, e1, e2, e3⟩ | ⟨hn, e3⟩
    ·rw [e3] at hI
     have hk : k < i := by omega
     rw [nd_take hk] at e1
     have e1 : (nd l k).f0 = (nd l i).f1 := by simpa using e1
     have hkind : 1 ≤ (nd l k).f2 ∧ (nd l k).f2 ≤ 11 := ((formedB_iff _).1 (hf k (by omega))).2.2.1
     by_cases hs : standsB (nd l i).f2 (nd l k).f2 = true
     ·have hb := hp.bnd k hk
      have hw : wrap64 (rd acc k + 1) = rd acc k + 1 := by unfold wrap64; omega
      obtain ⟨r, hr1, hr2⟩ := ih (i + 1) (acc ++ [rd acc k + 1]) hlt (by omega) ⟨by simp [hp.len], fun _ => by
        obtain ⟨a, b, c⟩ := hp.root (by omega)
        exact ⟨a, b, by have := rd_snoc acc (rd acc k + 1) 0 (by rw [hp.len]; omega); exact this.trans c⟩, fun j hj h => by
        by_cases e : j = i
        ·subst e
         refine ⟨k, hk, e1, hs, ?_⟩
         have := rd_snoc_last acc (rd acc k + 1)
         rw [hp.len] at this
         rw [this, rd_snoc acc _ k (by rw [hp.len]; exact hk)]
        ·obtain ⟨m, hm, a, b, c⟩ := hp.par j (by omega) h
         exact ⟨m, hm, a, b, by rw [rd_snoc acc _ j (by rw [hp.len]; omega), rd_snoc acc _ m (by rw [hp.len]; omega), c]⟩, fun j hj => by
        by_cases e : j = i
        ·subst e
         have := rd_snoc_last acc (rd acc k + 1)
         rw [hp.len] at this
         rw [this]; omega
        ·rw [rd_snoc acc _ j (by rw [hp.len]; omega)]; exact hp.bnd j (by omega)⟩
      refine ⟨r, Ev.up ?_, hr2⟩
      simp only [formeref10_depths.l0]
      refine Ev.thn (by omega) (Ev.els (by omega) (Ev.thn (by omega) (Ev.thn (by omega) (Ev.bind hI ?_))))
      refine Ev.els (by omega) (Ev.thn (by omega) (Ev.thn (by omega) (Ev.obind (refStands _ _ hkind.1 hkind.2) (Ev.thn hs (Ev.thn (by rw [hp.len]; omega) (Ev.thn (by rw [hp.len]; omega) ?_))))))
      rw [w64n i (by omega), hw]
      exact hr1
     ·refine ⟨([], false), Ev.up ?_, .inl ⟨rfl, fun ds T => ?_⟩⟩
      ·simp only [formeref10_depths.l0]
       refine Ev.thn (by omega) (Ev.els (by omega) (Ev.thn (by omega) (Ev.thn (by omega) (Ev.bind hI ?_))))
       exact Ev.els (by omega) (Ev.thn (by omega) (Ev.thn (by omega) (Ev.obind (refStands _ _ hkind.1 hkind.2) (Ev.els hs (Ev.now _)))))
      ·obtain ⟨m, hm, a, b, c⟩ := T.par i hlt (by omega)
       obtain rfl := T.inj (j := m) (k := k) (by omega) (by omega) (a.trans e1.symm)
       exact hs b
    ·rw [e3] at hI
     refine ⟨([], false), Ev.up ?_, .inl ⟨rfl, fun ds T => ?_⟩⟩
     ·simp only [formeref10_depths.l0]
      refine Ev.thn (by omega) (Ev.els (by omega) (Ev.thn (by omega) (Ev.thn (by omega) (Ev.bind hI ?_))))
      exact Ev.thn (by omega) (Ev.now _)
     ·obtain ⟨m, hm, a, b, c⟩ := T.par i hlt (by omega)
      have := hn m (by omega)
      rw [nd_take hm] at this
      simp at this
      exact this a
  ·refine ⟨(acc, true), Ev.up ?_, .inr ⟨acc, rfl, (show i = l.length by omega) ▸ hp⟩⟩
   simp only [formeref10_depths.l0]
   exact Ev.els (by omega) (Ev.now _)
theorem PreD.tree {acc : List Int} (hp : PreD l acc l.length) (T : TreeAt l ds) : ∀ j, j < l.length → rd acc j = ds j := by
 intro j
 induction j using Nat.strongRecOn with
 | ind j ih =>
  intro hj
  by_cases h0 : j = 0
  ·subst h0; rw [T.d0]; exact (hp.root hj).2.2
  ·obtain ⟨k, hk, a, _, c⟩ := hp.par j hj (by omega)
   obtain ⟨m, hm, a', _, c'⟩ := T.par j hj (by omega)
   obtain rfl := T.inj (j := m) (k := k) (by omega) (by omega) (a'.trans a.symm)
   rw [c, c', ih m hm (by omega)]
theorem refL1 (l : List S24) (acc : List Int) (hl : acc.length ≤ 4000) (b : Bool) : ∀ (d i : Nat), i ≤ acc.length → acc.length - i ≤ d → (∀ j, j < i → rd acc j ≤ 30) →
  (Ev (fun k => formeref10_Valid.l1 k acc b i) b ∧ ∀ j, j < acc.length → rd acc j ≤ 30) ∨ (Ev (fun k => formeref10_Valid.l1 k acc b i) false ∧ ∃ j, j < acc.length ∧ 30 < rd acc j) := by
 intro d
 induction d with
 | zero =>
  intro i hi hd ha
  refine .inl ⟨Ev.up ?_, fun j hj => ha j (by omega)⟩
  simp only [formeref10_Valid.l1]
  exact Ev.els (by omega) (Ev.now _)
 | succ d ih =>
  intro i hi hd ha
  by_cases hlt : i < acc.length
  ·by_cases h : rd acc i ≤ 30
   ·have key := ih (i + 1) hlt (by omega) (fun j hj => by
     by_cases e : j = i
     ·subst e; exact h
     ·exact ha j (by omega))
    have go : ∀ r, Ev (fun k => formeref10_Valid.l1 k acc b ((i + 1 : Nat) : Int)) r → Ev (fun k => formeref10_Valid.l1 k acc b i) r := fun r hr => by
     refine Ev.up ?_
     simp only [formeref10_Valid.l1]
     refine Ev.thn (by omega) (Ev.thn (by omega) (Ev.els (by omega) ?_))
     rw [w64n i (by omega)]
     exact hr
    rcases key with ⟨a, c⟩ | ⟨a, c⟩
    ·exact .inl ⟨go _ a, c⟩
    ·exact .inr ⟨go _ a, c⟩
   ·refine .inr ⟨Ev.up ?_, i, hlt, by omega⟩
    simp only [formeref10_Valid.l1]
    exact Ev.thn (by omega) (Ev.thn (by omega) (Ev.thn (by omega) (Ev.now _)))
  ·refine .inl ⟨Ev.up ?_, fun j hj => ha j (by omega)⟩
   simp only [formeref10_Valid.l1]
   exact Ev.els (by omega) (Ev.now _)
theorem refValid_go (l : List S24) (h1 : 0 < l.length) (hl : l.length ≤ 4000) (hs : ∀ j, j < l.length → (nd l j).f4.size ≤ 9223372036854775807) : ∀ (d i : Nat), i ≤ l.length → l.length - i ≤ d →
  (∀ j, j < i → formedB (nd l j) = true) → (∀ j k, j < k → k < i → (nd l j).f0 ≠ (nd l k).f0) →
  Ev (fun k => formeref10_Valid.l0 k l i) (placesP l).isSome := by
 have last : (∀ j, j < l.length → formedB (nd l j) = true) → (∀ j k, j < k → k < l.length → (nd l j).f0 ≠ (nd l k).f0) → Ev (fun k => formeref10_Valid.l0 k l (l.length : Int)) (placesP l).isSome := by
  intro hf hd
  refine Ev.up ?_
  simp only [formeref10_Valid.l0]
  refine Ev.els (by omega) ?_
  obtain ⟨r, hr1, hr2⟩ := refDepths_go l hl hf l.length 0 [] (by omega) (by omega) ⟨rfl, fun h => by omega, fun j hj => by omega, fun j hj => by omega⟩
  refine Ev.bind hr1 ?_
  rcases hr2 with ⟨rfl, hn⟩ | ⟨acc, rfl, hp⟩
  ·rw [no_tree hn]
   rcases refL1 l [] (by simp) false 0 0 (by simp) (by simp) (fun j hj => by omega) with ⟨a, _⟩ | ⟨a, _⟩ <;> exact a
  ·rcases refL1 l acc (by rw [hp.len]; exact hl) true acc.length 0 (by omega) (by omega) (fun j hj => by omega) with ⟨a, c⟩ | ⟨a, j, hj, c⟩
   ·rw [hp.len] at c
    have T : TreeAt l (fun j => rd acc j) := ⟨h1, hl, hf, hd, ⟨(hp.root h1).1, (hp.root h1).2.1⟩, (hp.root h1).2.2, hp.par, c⟩
    obtain ⟨D, hD⟩ := T.places
    rw [hD]
    exact a
   ·rw [hp.len] at hj
    rw [no_tree (fun ds T => by
     have := hp.tree T j hj
     have := T.le30 j hj
     omega)]
    exact a
 intro d
 induction d with
 | zero =>
  intro i hi hd hf hid
  obtain rfl : i = l.length := by omega
  exact last hf hid
 | succ d ih =>
  intro i hi hd hf hid
  by_cases hlt : i < l.length
  ·refine Ev.up ?_
   simp only [formeref10_Valid.l0]
   refine Ev.thn (by omega) (Ev.thn (by omega) (Ev.bind (refNode (nd l i) (hs i hlt)) ?_))
   by_cases hfi : formedB (nd l i) = true
   ·refine Ev.thn hfi (Ev.thn (by omega) ?_)
    have hI := refIndex (l.take i) (nd l i).f0 (by simp; omega)
    have hlen : (l.take i).length = i := by simp; omega
    refine Ev.bind hI ?_
    rcases ixFind_cases (fun n => decide (n.f0 = (nd l i).f0)) (l.take i) with ⟨k, hk, e1, e2, e3⟩ | ⟨hn, e3⟩
    ·rw [e3]
     have hk : k < i := by omega
     rw [nd_take hk] at e1
     have e1 : (nd l k).f0 = (nd l i).f0 := by simpa using e1
     refine Ev.thn (by omega) ?_
     rw [no_tree (fun ds T => T.ids k i hk hlt e1)]
     exact Ev.now _
    ·rw [e3]
     refine Ev.els (by omega) ?_
     rw [w64n i (by omega)]
     refine ih (i + 1) hlt (by omega) (fun j hj => ?_) (fun j k hjk hk => ?_)
     ·by_cases e : j = i
      ·subst e; exact hfi
      ·exact hf j (by omega)
     ·by_cases e : k = i
      ·subst e
       have := hn j (by omega)
       rw [nd_take hjk] at this
       simpa using this
      ·exact hid j k hjk (by omega)
   ·refine Ev.els hfi ?_
    rw [no_tree (fun ds T => hfi (T.form i hlt))]
    exact Ev.now _
  ·obtain rfl : i = l.length := by omega
   exact last hf hid
theorem refValid (l : List S24) (hs : ∀ j, j < l.length → (nd l j).f4.size ≤ 9223372036854775807) : Ev (fun k => formeref10_Valid.f k l) (placesP l).isSome := by
 simp only [formeref10_Valid.f]
 by_cases h1 : (l.length : Int) < 1
 ·refine Ev.thn h1 (Ev.up ?_)
  simp only [formeref10_Valid.j0]
  rw [no_tree (fun ds T => by have := T.pos; omega)]
  exact Ev.now _
 ·refine Ev.els h1 (Ev.up ?_)
  simp only [formeref10_Valid.j0]
  by_cases h2 : (l.length : Int) > 4000
  ·rw [no_tree (fun ds T => by have := T.len; omega)]
   simp only [h2, decide_true]
   exact Ev.now _
  ·simp only [h2, decide_false, Bool.false_eq_true, if_false]
   exact refValid_go l (by omega) (by omega) hs l.length 0 (by omega) (by omega) (fun j hj => by omega) (fun j k _ hk => by omega)
end Go.Proofs.Ytpafhhgoldenoaa.P
end
section
namespace Go.Proofs.Ytpafhhgoldenoaa.P
open Go.RowKit Go.Proofs.YtpafhhgoldenoaaW.PrintWords Go.Proofs.YtpafhhgoldenoaaW.PrintLast Go.Proofs.YtpafhhgoldenoaaW.PrintMore
attribute [local go_sem] max2_int min2_int max_two min_two max_three min_three max_four min_four
set_option linter.unusedVariables false
set_option linter.unusedSimpArgs false
def tree_get.f (l0 : List (S24)) (a1 : Int) : Option (Int × Int) := (tree_Find.f l0 a1).bind fun bt110 => (if bt110.2.2 = 0 then (if bt110.2.1 = true then (some (bt110.1, bt110.2.2)) else (some (bt110.1, 4))) else (some (bt110.1, bt110.2.2)))
set_option maxHeartbeats 8000000 in
set_option maxRecDepth 100000 in
theorem tree_get.calls (A0 : Option Addr) (c0 : Nat) (l0 : List (S24)) (a1 : Int) (r1 : Int) (r2 : Int) (w : World) (hr0 : Kd.C k24 w A0 l0.length l0) (hc0 : l0.length ≤ c0) (h : tree_get.f l0 a1 = some (r1, r2)) :
  Calls Try.prog 37 #[.slice A0 l0.length c0, .int .i64 a1] w fun e w' => e = .returned (.tuple #[.int .i64 r1, .int .i64 r2]) ∧ Below w.heap.size w w' := by
 have HR0 := Aside0.mk hr0
 have HC0 := Aside0.mk hc0
 clear hr0 hc0
 have HB := Aside0.mk (Below.refl w.heap.size w)
 have H : ((tree_Find.f l0 a1).bind fun bt110 => (if bt110.2.2 = 0 then (if bt110.2.1 = true then (some (bt110.1, bt110.2.2)) else (some (bt110.1, 4))) else (some (bt110.1, bt110.2.2)))) = some (r1, r2) := h
 clear h
 replace H := Option.bind_eq_some_iff.mp H
 obtain ⟨⟨t110, t111, t112⟩, A30, H⟩ := H
 try dsimp only at H
 have A3 := Aside0.mk A30
 clear A30
 by_cases c4 : t112 = 0
 ·rw [if_pos c4] at H
  have c4b0 : (t112 == 0) = true := beq_iff_eq.mpr c4
  have c4b1 : (t112 != 0) = false := bne_eq_false_iff_eq.mpr c4
  clear c4
  by_cases c5 : t111 = true
  ·subst c5
   have H1 : (some (t110, t112)) = some (r1, r2) := by rw [if_pos rfl] at H; exact H
   clear H
   have H := H1
   clear H1
   simp only [Option.some.injEq, Prod.mk.injEq] at H
   obtain ⟨rfl, rfl⟩ := H
   go_enter Try.func37, Try.ntmps37
   go_wp2_with (first | ((with_reducible refine gate_callee (f := 11) rfl ?_); refine goesL_ (some 12) rfl rfl Try.func11 (by kernel_rfl) rfl #[.slice A0 l0.length c0, .int .i64 a1] rfl z2_ ?_; (with_reducible refine (tree_Find.calls _ _ l0 a1 t110 true t112 _ ?side1 ?side2 A3.out).mono ?_); (case side1 => exact z9_); (case side2 => exact HC0.out); rintro e w6 ⟨rfl, hb⟩; refine ⟨_, rfl, ?_⟩; have n0_ := Aside0.mk (below_step z1_ hb); clear HB; have HB := n0_; clear n0_; (try clear hb); (try clear hb2); (try clear hk); (try clear hi)))
   go_ret2
   exact ⟨by first | rfl | (simp [errW_none, errW_some] <;> rfl) | (simp [*, errW_none, errW_some] <;> rfl), by repeat (first | (with_reducible first | exact HB.out | apply below_alloc | apply pw_below_drewN | apply below_drew1) | exact HB.out)⟩
  ·replace c5 := Bool.eq_false_iff.mpr c5
   subst c5
   have H1 : (some (t110, 4)) = some (r1, r2) := by rw [if_neg (show ¬ (false = true) by decide)] at H; exact H
   clear H
   have H := H1
   clear H1
   simp only [Option.some.injEq, Prod.mk.injEq] at H
   obtain ⟨rfl, rfl⟩ := H
   go_enter Try.func37, Try.ntmps37
   go_wp2_with (first | ((with_reducible refine gate_callee (f := 11) rfl ?_); refine goesL_ (some 12) rfl rfl Try.func11 (by kernel_rfl) rfl #[.slice A0 l0.length c0, .int .i64 a1] rfl z2_ ?_; (with_reducible refine (tree_Find.calls _ _ l0 a1 t110 false t112 _ ?side1 ?side2 A3.out).mono ?_); (case side1 => exact z9_); (case side2 => exact HC0.out); rintro e w7 ⟨rfl, hb⟩; refine ⟨_, rfl, ?_⟩; have n0_ := Aside0.mk (below_step z1_ hb); clear HB; have HB := n0_; clear n0_; (try clear hb); (try clear hb2); (try clear hk); (try clear hi)))
   go_ret2
   exact ⟨by first | rfl | (simp [errW_none, errW_some] <;> rfl) | (simp [*, errW_none, errW_some] <;> rfl), by repeat (first | (with_reducible first | exact HB.out | apply below_alloc | apply pw_below_drewN | apply below_drew1) | exact HB.out)⟩
 ·rw [if_neg c4] at H
  have c4b0 : (t112 == 0) = false := beq_eq_false_iff_ne.mpr c4
  have c4b1 : (t112 != 0) = true := bne_iff_ne.mpr c4
  simp only [Option.some.injEq, Prod.mk.injEq] at H
  obtain ⟨rfl, rfl⟩ := H
  go_enter Try.func37, Try.ntmps37
  go_wp2_with (first | ((with_reducible refine gate_callee (f := 11) rfl ?_); refine goesL_ (some 12) rfl rfl Try.func11 (by kernel_rfl) rfl #[.slice A0 l0.length c0, .int .i64 a1] rfl z2_ ?_; (with_reducible refine (tree_Find.calls _ _ l0 a1 t110 t111 t112 _ ?side1 ?side2 A3.out).mono ?_); (case side1 => exact z9_); (case side2 => exact HC0.out); rintro e w8 ⟨rfl, hb⟩; refine ⟨_, rfl, ?_⟩; have n0_ := Aside0.mk (below_step z1_ hb); clear HB; have HB := n0_; clear n0_; (try clear hb); (try clear hb2); (try clear hk); (try clear hi)))
  go_ret2
  exact ⟨by first | rfl | (simp [errW_none, errW_some] <;> rfl) | (simp [*, errW_none, errW_some] <;> rfl), by repeat (first | (with_reducible first | exact HB.out | apply below_alloc | apply pw_below_drewN | apply below_drew1) | exact HB.out)⟩
end Go.Proofs.Ytpafhhgoldenoaa.P
end
section
namespace Go.Proofs.Ytpafhhgoldenoaa.P
open Go.RowKit Go.Proofs.YtpafhhgoldenoaaW.PrintWords Go.Proofs.YtpafhhgoldenoaaW.PrintLast Go.Proofs.YtpafhhgoldenoaaW.PrintMore
attribute [local go_sem] max2_int min2_int max_two min_two max_three min_three max_four min_four
set_option linter.unusedVariables false
set_option linter.unusedSimpArgs false
def tree_Kids.f (k : Nat) (l0 : List (S24)) (a1 : Int) : Option (List Int × Int) := (tree_get.f l0 a1).bind fun bt118 => (if bt118.2 = 0 then ((tree_kids.f k l0 a1).bind fun t120 => (some (t120, 0))) else (some (([] : List Int), bt118.2)))
theorem tree_Kids.mono : ∀ a0 a1 k, LeO (tree_Kids.f k a0 a1) (tree_Kids.f (k + 1) a0 a1) := by
 intro a0 a1 k
 unfold tree_Kids.f
 repeat' first
   | (with_reducible exact tree_kids.mono _ _ _)
   | (with_reducible exact LeO.refl _)
   | (with_reducible exact LeO.none _)
   | (with_reducible refine LeO.ite ?_ ?_)
   | (with_reducible refine LeO.bind ?_ (fun _ => ?_))
   | exact tree_kids.mono _ _ _
   | exact LeO.none _
   | refine LeO.ite ?_ ?_
   | refine LeO.bind ?_ (fun _ => ?_)
set_option maxHeartbeats 8000000 in
set_option maxRecDepth 100000 in
theorem tree_Kids.calls (k : Nat) (A0 : Option Addr) (c0 : Nat) (l0 : List (S24)) (a1 : Int) (r1 : List Int) (r2 : Int) (w : World) (hr0 : Kd.C k24 w A0 l0.length l0) (hc0 : l0.length ≤ c0) (h : tree_Kids.f k l0 a1 = some (r1, r2)) :
  Calls Try.prog 15 #[.slice A0 l0.length c0, .int .i64 a1] w fun e w' => ∃ v0_ : Value, e = .returned (.tuple #[v0_, .int .i64 r2]) ∧ Kd.R (Kd.int .i64) 3 w' w.heap.size (fun _ => True) v0_ r1 ∧ Below w.heap.size w w' := by
 have HR0 := Aside0.mk hr0
 have HC0 := Aside0.mk hc0
 clear hr0 hc0
 have HB := Aside0.mk (Below.refl w.heap.size w)
 have H : ((tree_get.f l0 a1).bind fun bt118 => (if bt118.2 = 0 then ((tree_kids.f k l0 a1).bind fun t120 => (some (t120, 0))) else (some (([] : List Int), bt118.2)))) = some (r1, r2) := h
 clear h
 replace H := Option.bind_eq_some_iff.mp H
 obtain ⟨⟨t118, t119⟩, A30, H⟩ := H
 try dsimp only at H
 have A3 := Aside0.mk A30
 clear A30
 by_cases c4 : t119 = 0
 ·rw [if_pos c4] at H
  have c4b0 : (t119 == 0) = true := beq_iff_eq.mpr c4
  have c4b1 : (t119 != 0) = false := bne_eq_false_iff_eq.mpr c4
  clear c4
  replace H := Option.bind_eq_some_iff.mp H
  obtain ⟨t120, A50, H⟩ := H
  try dsimp only at H
  have A5 := Aside0.mk A50
  clear A50
  simp only [Option.some.injEq, Prod.mk.injEq] at H
  obtain ⟨rfl, rfl⟩ := H
  go_enter Try.func15, Try.ntmps15
  go_wp2_with (first | ((with_reducible refine gate_callee (f := 37) rfl ?_); refine goesL_ (some 11) rfl rfl Try.func37 (by kernel_rfl) rfl #[.slice A0 l0.length c0, .int .i64 a1] rfl z2_ ?_; (with_reducible refine (tree_get.calls _ _ l0 a1 t118 t119 _ ?side1 ?side2 A3.out).mono ?_); (case side1 => exact z9_); (case side2 => exact HC0.out); rintro e w6 ⟨rfl, hb⟩; refine ⟨_, rfl, ?_⟩; have n0_ := Aside0.mk (below_step z1_ hb); clear HB; have HB := n0_; clear n0_; (try clear hb); (try clear hb2); (try clear hk); (try clear hi)) | ((with_reducible refine gate_callee (f := 38) rfl ?_); refine goesL_ (some 19) rfl rfl Try.func38 (by kernel_rfl) rfl #[.slice A0 l0.length c0, .int .i64 a1] rfl z2_ ?_; (with_reducible refine (tree_kids.calls k _ _ l0 a1 t120 _ ?side1 ?side2 A5.out).mono ?_); (case side1 => exact z10_); (case side2 => exact HC0.out); rintro e w7 ⟨v121, rfl, ho0, hb⟩; refine ⟨_, rfl, ?_⟩; have n0_ := Aside0.mk (Kd.R_lower ho0 (below_size z1_)); have n1_ := Aside0.mk (below_step z1_ hb); clear HB; have HO122 := n0_; have HB := n1_; clear n0_ n1_; (try clear hb); (try clear hb2); (try clear hk); (try clear hi); (try clear ho0)))
  go_ret2
  exact ⟨_, by first | rfl | (simp [errW_none, errW_some] <;> rfl) | (simp [*, errW_none, errW_some] <;> rfl), by (with_reducible repeat (first | apply Kd.R_alloc | apply Kd.R_drewN | apply Kd.R_drew)); exact HO122.out, by repeat (first | (with_reducible first | exact HB.out | apply below_alloc | apply pw_below_drewN | apply below_drew1) | exact HB.out)⟩
 ·rw [if_neg c4] at H
  have c4b0 : (t119 == 0) = false := beq_eq_false_iff_ne.mpr c4
  have c4b1 : (t119 != 0) = true := bne_iff_ne.mpr c4
  simp only [Option.some.injEq, Prod.mk.injEq] at H
  obtain ⟨rfl, rfl⟩ := H
  go_enter Try.func15, Try.ntmps15
  go_wp2_with (first | ((with_reducible refine gate_callee (f := 37) rfl ?_); refine goesL_ (some 11) rfl rfl Try.func37 (by kernel_rfl) rfl #[.slice A0 l0.length c0, .int .i64 a1] rfl z2_ ?_; (with_reducible refine (tree_get.calls _ _ l0 a1 t118 t119 _ ?side1 ?side2 A3.out).mono ?_); (case side1 => exact z9_); (case side2 => exact HC0.out); rintro e w8 ⟨rfl, hb⟩; refine ⟨_, rfl, ?_⟩; have n0_ := Aside0.mk (below_step z1_ hb); clear HB; have HB := n0_; clear n0_; (try clear hb); (try clear hb2); (try clear hk); (try clear hi)))
  go_ret2
  exact ⟨_, by first | rfl | (simp [errW_none, errW_some] <;> rfl) | (simp [*, errW_none, errW_some] <;> rfl), by first | exact Kd.R_nil _ _ _ _ _ | exact Kd.N_nil _ _ _ _ _ | exact Kd.V_nil _ _ _ _ _ | exact Kd.Q_nil _ _ _ _ _ | exact Kd.S_nil _ _ _ _ _, by repeat (first | (with_reducible first | exact HB.out | apply below_alloc | apply pw_below_drewN | apply below_drew1) | exact HB.out)⟩
end Go.Proofs.Ytpafhhgoldenoaa.P
end
section
namespace Go.Proofs.Ytpafhhgoldenoaa.P
open Go.RowKit Go.Proofs.YtpafhhgoldenoaaW.PrintWords Go.Proofs.YtpafhhgoldenoaaW.PrintLast Go.Proofs.YtpafhhgoldenoaaW.PrintMore
attribute [local go_sem] max2_int min2_int max_two min_two max_three min_three max_four min_four
set_option linter.unusedVariables false
set_option linter.unusedSimpArgs false
def formeref10_SameInts.l0 : Nat → List Int → List Int → Int → Option (Bool)
 | 0, _, _, _ => none
 | k + 1, x0, x1, x5 => if x5 < (x0.length : Int) then (if 0 ≤ x5 then (if x5 < (x1.length : Int) then (if (rd x0 x5) = (rd x1 x5) then (formeref10_SameInts.l0 k x0 x1 (wrap64 (x5 + 1))) else (some false)) else (none)) else (none)) else (some true)
def formeref10_SameInts.f (k : Nat) (l0 : List Int) (l1 : List Int) : Option (Bool) := if (l0.length : Int) = (l1.length : Int) then (formeref10_SameInts.l0 k l0 l1 0) else (some false)
theorem formeref10_SameInts.mono_l : ∀ k, (∀ y0 y1 y2, LeO (formeref10_SameInts.l0 k y0 y1 y2) (formeref10_SameInts.l0 (k + 1) y0 y1 y2))
 | 0 => fun _ _ _ r h => by simp [formeref10_SameInts.l0] at h
 | k + 1 => by
  have ih0 := formeref10_SameInts.mono_l k
  ·intro y0 y1 y2
   unfold formeref10_SameInts.l0
   repeat' first
   | (with_reducible exact ih0 _ _ _)
   | (with_reducible exact LeO.refl _)
   | (with_reducible exact LeO.none _)
   | (with_reducible refine LeO.ite ?_ ?_)
   | (with_reducible refine LeO.bind ?_ (fun _ => ?_))
   | exact ih0 _ _ _
   | exact LeO.none _
   | refine LeO.ite ?_ ?_
   | refine LeO.bind ?_ (fun _ => ?_)
theorem formeref10_SameInts.mono : ∀ a0 a1 k, LeO (formeref10_SameInts.f k a0 a1) (formeref10_SameInts.f (k + 1) a0 a1) := by
 intro a0 a1 k
 have ih0 := formeref10_SameInts.mono_l k
 unfold formeref10_SameInts.f
 repeat' first
   | (with_reducible exact ih0 _ _ _)
   | (with_reducible exact LeO.refl _)
   | (with_reducible exact LeO.none _)
   | (with_reducible refine LeO.ite ?_ ?_)
   | (with_reducible refine LeO.bind ?_ (fun _ => ?_))
   | exact ih0 _ _ _
   | exact LeO.none _
   | refine LeO.ite ?_ ?_
   | refine LeO.bind ?_ (fun _ => ?_)
set_option maxHeartbeats 8000000 in
set_option maxRecDepth 100000 in
theorem formeref10_SameInts.calls (k : Nat) (A0 : Option Addr) (c0 : Nat) (l0 : List Int) (A1 : Option Addr) (c1 : Nat) (l1 : List Int) (r : Bool) (w : World) (hr0 : Kd.C (Kd.int .i64) w A0 l0.length l0) (hc0 : l0.length ≤ c0) (hr1 : Kd.C (Kd.int .i64) w A1 l1.length l1) (hc1 : l1.length ≤ c1) (h : formeref10_SameInts.f k l0 l1 = some r) :
  Calls Try.prog 17 #[.slice A0 l0.length c0, .slice A1 l1.length c1] w fun e w' => e = .returned (.bool r) ∧ Drawn0 w w' := by
 have HR0 := Aside0.mk hr0
 have HC0 := Aside0.mk hc0
 clear hr0 hc0
 have HR1 := Aside0.mk hr1
 have HC1 := Aside0.mk hc1
 clear hr1 hc1
 have H : (if (l0.length : Int) = (l1.length : Int) then (formeref10_SameInts.l0 k l0 l1 0) else (some false)) = some r := h
 clear h
 by_cases c3 : (l0.length : Int) = (l1.length : Int)
 ·rw [if_pos c3] at H
  have c3b0 : ((l0.length : Int) == (l1.length : Int)) = true := beq_iff_eq.mpr c3
  have c3b1 : ((l0.length : Int) != (l1.length : Int)) = false := bne_eq_false_iff_eq.mpr c3
  have c3b2 : (l0.length == l1.length) = true := by first | simpa using c3 | (simp at c3 ⊢; omega)
  clear c3
  have H' := Aside0.mk H
  clear H
  go_enter Try.func17, Try.ntmps17
  go_wp2
  repeat (go_quiet (fail); try go_wp2)
  go_loopg [5] k (fun kq v5 w' => ∃ (x5_1 : Int), v5 = .int .i64 x5_1 ∧ Aside0 (formeref10_SameInts.l0 kq l0 l1 x5_1 = some r) ∧ Aside0 (kq ≤ k) ∧ Drawn0 w w')
  case atStart => exact ⟨(0), z8_, H', ⟨Nat.le_refl _⟩, by repeat (first | exact Drawn0.refl _ | apply Drawn0.step)⟩
  case round =>
   clear H'
   try clear c1
   try clear p2
   try clear c3
   try clear c3b0
   try clear c3b1
   try clear c3b2
   obtain ⟨x5_1, rfl, HA, HK1, ⟨m1, rfl⟩⟩ := hrel
   cases gk with
   | zero => exact absurd HA.out (by simp [formeref10_SameInts.l0])
   | succ k1 =>
    have H := HA.out
    clear HA
    simp only [formeref10_SameInts.l0] at H
    by_cases c4 : x5_1 < (l0.length : Int)
    ·rw [if_pos c4] at H
     have c4b0 : decide (x5_1 < (l0.length : Int)) = true := decide_eq_true c4
     clear c4
     by_cases c5 : 0 ≤ x5_1
     rotate_left
     ·rw [if_neg c5] at H; exact absurd H (by simp)
     rw [if_pos c5] at H
     have c5b0 : decide (0 ≤ x5_1) = true := decide_eq_true c5
     clear c5
     by_cases c6 : x5_1 < (l1.length : Int)
     rotate_left
     ·rw [if_neg c6] at H; exact absurd H (by simp)
     rw [if_pos c6] at H
     have c6b0 : decide (x5_1 < (l1.length : Int)) = true := decide_eq_true c6
     clear c6
     by_cases c7 : (rd l0 x5_1) = (rd l1 x5_1)
     ·rw [if_pos c7] at H
      have c7b0 : ((rd l0 x5_1) == (rd l1 x5_1)) = true := beq_iff_eq.mpr c7
      have c7b1 : ((rd l0 x5_1) != (rd l1 x5_1)) = false := bne_eq_false_iff_eq.mpr c7
      clear c7
      have H' := Aside0.mk H
      clear H
      have p123 : 0 ≤ (x5_1 : Int) := of_decide_eq_true z3_
      have q123 : x5_1 < (l0.length : Int) := of_decide_eq_true z3_
      obtain ⟨ad123, e123, hx123_0⟩ := Kd.at_int HR0.out x5_1 p123 q123
      cases e123
      replace p123 := eq_true p123
      replace q123 := eq_true q123
      have p124 : 0 ≤ (x5_1 : Int) := of_decide_eq_true z3_
      have q124 : x5_1 < (l1.length : Int) := of_decide_eq_true z3_
      obtain ⟨ad124, e124, hx124_0⟩ := Kd.at_int HR1.out x5_1 p124 q124
      cases e124
      replace p124 := eq_true p124
      replace q124 := eq_true q124
      go_wp2
      repeat (go_quiet (fail); try go_wp2)
      go_roundg k1
      case measure => have := HK1.out; omega
      case rel => exact ⟨(wrap64 (x5_1 + 1)), z8_, H', ⟨by have := HK1.out; omega⟩, by repeat (first | exact Drawn0.refl _ | apply Drawn0.step)⟩
     ·rw [if_neg c7] at H
      have c7b0 : ((rd l0 x5_1) == (rd l1 x5_1)) = false := beq_eq_false_iff_ne.mpr c7
      have c7b1 : ((rd l0 x5_1) != (rd l1 x5_1)) = true := bne_iff_ne.mpr c7
      obtain rfl := Option.some.inj H
      have p123 : 0 ≤ (x5_1 : Int) := of_decide_eq_true z3_
      have q123 : x5_1 < (l0.length : Int) := of_decide_eq_true z3_
      obtain ⟨ad123, e123, hx123_0⟩ := Kd.at_int HR0.out x5_1 p123 q123
      cases e123
      replace p123 := eq_true p123
      replace q123 := eq_true q123
      have p124 : 0 ≤ (x5_1 : Int) := of_decide_eq_true z3_
      have q124 : x5_1 < (l1.length : Int) := of_decide_eq_true z3_
      obtain ⟨ad124, e124, hx124_0⟩ := Kd.at_int HR1.out x5_1 p124 q124
      cases e124
      replace p124 := eq_true p124
      replace q124 := eq_true q124
      go_wp2
      repeat (go_quiet (fail); try go_wp2)
      go_ret
      exact ⟨by first | rfl | (simp; done) | (simp [*]; done), by repeat (first | exact Drawn0.refl _ | apply Drawn0.step)⟩
    ·rw [if_neg c4] at H
     have c4b0 : decide (x5_1 < (l0.length : Int)) = false := decide_eq_false c4
     clear c4
     obtain rfl := Option.some.inj H
     go_wp2
     repeat (go_quiet (fail); try go_wp2)
     go_ret
     exact ⟨by first | rfl | (simp; done) | (simp [*]; done), by repeat (first | exact Drawn0.refl _ | apply Drawn0.step)⟩
 ·rw [if_neg c3] at H
  have c3b0 : ((l0.length : Int) == (l1.length : Int)) = false := beq_eq_false_iff_ne.mpr c3
  have c3b1 : ((l0.length : Int) != (l1.length : Int)) = true := bne_iff_ne.mpr c3
  have c3b2 : (l0.length == l1.length) = false := by first | simpa using c3 | (simp at c3 ⊢; omega)
  obtain rfl := Option.some.inj H
  go_enter Try.func17, Try.ntmps17
  go_wp2
  repeat (go_quiet (fail); try go_wp2)
  go_ret
  exact ⟨by first | rfl | (simp; done) | (simp [*]; done), by repeat (first | exact Drawn0.refl _ | apply Drawn0.step)⟩
end Go.Proofs.Ytpafhhgoldenoaa.P
end
section
namespace Go.Proofs.Ytpafhhgoldenoaa.P
open Go.RowKit Go.Proofs.YtpafhhgoldenoaaW.PrintWords Go.Proofs.YtpafhhgoldenoaaW.PrintLast Go.Proofs.YtpafhhgoldenoaaW.PrintMore
attribute [local go_sem] max2_int min2_int max_two min_two max_three min_three max_four min_four
set_option linter.unusedVariables false
set_option linter.unusedSimpArgs false
def slices_Reverse_int_int.l0 : Nat → List Int → Int → Int → Option (List Int)
 | 0, _, _, _ => none
 | k + 1, x0, x2, x3 => if x2 < x3 then (if 0 ≤ x3 then (if x3 < (x0.length : Int) then (if 0 ≤ x2 then (if x2 < (x0.length : Int) then (slices_Reverse_int_int.l0 k ((x0.set (x2 : Int).toNat (rd x0 x3)).set (x3 : Int).toNat (rd x0 x2)) (wrap64 (x2 + 1)) (wrap64 (x3 - 1))) else (none)) else (none)) else (none)) else (none)) else (some x0)
def slices_Reverse_int_int.f (k : Nat) (l0 : List Int) : Option (List Int) := slices_Reverse_int_int.l0 k l0 0 (wrap64 ((l0.length : Int) - 1))
def slices_Reverse_int_int.T3 : Bool × List (List Nat × List Nat) := (true, [([], []), ([], []), ([], []), ([], []), ([], []), ([], []), ([4, 5], [4, 5]), ([6], [6]), ([], []), ([], []), ([8, 9], [8, 9]), ([10], [10]), ([0, 1, 0, 1, 4, 5, 6, 7, 11], [0, 1]), ([12, 7, 0, 1, 4, 5, 6, 7, 11], [7, 12]), ([2, 3, 0, 1, 2, 3, 4, 5, 6, 7, 8, 9, 10, 11, 12, 13], [2, 3]), ([14, 11, 13, 0, 1, 2, 3, 4, 5, 6, 7, 8, 9, 10, 11, 12, 13], [11, 14])])
def slices_Reverse_int_int.B3 : List Nat := [0, 0, 0, 0, 0, 0, 48, 112, 0, 0, 768, 1792, 4083, 8179, 16383, 32767]
theorem slices_Reverse_int_int.tab3 : rtab .any (opsOf Try.f54 3) = slices_Reverse_int_int.T3 := by kernel_rfl
theorem slices_Reverse_int_int.bits3 : waitsOk slices_Reverse_int_int.T3.2 slices_Reverse_int_int.B3 = true := by kernel_rfl
set_option maxHeartbeats 8000000 in
set_option maxRecDepth 100000 in
theorem slices_Reverse_int_int.calls (k : Nat) (P0_ : Nat → Prop) (u9000_ : Value) (l0 : List Int) (r : List Int) (w0 w : World) (hB : Below w0.heap.size w0 w) (ho0 : Kd.R (Kd.int .i64) 3 w w0.heap.size P0_ u9000_ l0) (h : slices_Reverse_int_int.f k l0 = some r) :
  Calls Try.prog 54 #[u9000_] w fun e w' => e = .returned (.tuple #[]) ∧ Kd.R (Kd.int .i64) 3 w' w0.heap.size (fun k_ => (P0_ k_ ∨ w.heap.size ≤ k_)) u9000_ r ∧ Below w0.heap.size w0 w' ∧ Kept w w' (fun k_ => P0_ k_) := by
 have HO0 := Aside0.mk (show Kd.R (Kd.int .i64) 3 w w0.heap.size (fun k_ => (P0_ k_ ∨ w.heap.size ≤ k_)) u9000_ l0 from Kd.R_mono ho0 (fun k_ hk => (.inl hk)))
 have HK := Aside0.mk (Kept.refl w (fun k_ => P0_ k_))
 have HW0 := Aside0.mk hB.size
 have HB := Aside0.mk hB
 clear hB
 have H : (slices_Reverse_int_int.l0 k l0 0 (wrap64 ((l0.length : Int) - 1))) = some r := h
 clear h
 have H' := Aside0.mk H
 clear H
 obtain ⟨Ao2, co2, eo2⟩ := Kd.R_slice HO0.out
 subst eo2
 go_enter Try.func54, Try.ntmps54
 go_wp2
 go_loopg [2, 3] k (fun kq v2 v3 w' => ∃ (x0_1 : List Int) (x2_1 : Int) (x3_1 : Int), v2 = .int .i64 x2_1 ∧ v3 = .int .i64 x3_1 ∧ Aside0 (slices_Reverse_int_int.l0 kq x0_1 x2_1 x3_1 = some r) ∧ Aside0 (kq ≤ k) ∧ Aside0 (Kd.R (Kd.int .i64) 3 w' w0.heap.size (fun k_ => (P0_ k_ ∨ w.heap.size ≤ k_)) (.slice Ao2 l0.length co2) x0_1) ∧ Aside0 (Kept w w' (fun k_ => P0_ k_)) ∧ Aside0 (Below w0.heap.size w0 w'))
 case atStart => exact ⟨(l0), (0), (wrap64 ((l0.length : Int) - 1)), z8_, z8_, H', ⟨Nat.le_refl _⟩, ⟨by (with_reducible repeat (first | apply Kd.R_alloc | apply Kd.R_drewN | apply Kd.R_drew)); exact HO0.out⟩, ⟨by repeat (first | (with_reducible first | exact HK.out | apply Kept.alloc | apply Kept.drewN | apply Kept.drew) | exact HK.out)⟩, ⟨by repeat (first | (with_reducible first | exact HB.out | apply below_alloc | apply pw_below_drewN | apply below_drew1) | exact HB.out)⟩⟩
 case round =>
  clear H'
  try clear p2
  obtain ⟨x0_1, x2_1, x3_1, rfl, rfl, HA, HK1, HO_0, HK, HB⟩ := hrel
  have hl0_1 := (Kd.R_reads' HO_0.out).1
  rw [hl0_1] at HO_0
  (try simp only [hl0_1])
  cases gk with
  | zero => exact absurd HA.out (by simp [slices_Reverse_int_int.l0])
  | succ k1 =>
   have H := HA.out
   clear HA
   simp only [slices_Reverse_int_int.l0] at H
   by_cases c3 : x2_1 < x3_1
   ·rw [if_pos c3] at H
    have c3b0 : decide (x2_1 < x3_1) = true := decide_eq_true c3
    clear c3
    by_cases c4 : 0 ≤ x3_1
    rotate_left
    ·rw [if_neg c4] at H; exact absurd H (by simp)
    rw [if_pos c4] at H
    have c4b0 : decide (0 ≤ x3_1) = true := decide_eq_true c4
    clear c4
    by_cases c5 : x3_1 < (x0_1.length : Int)
    rotate_left
    ·rw [if_neg c5] at H; exact absurd H (by simp)
    rw [if_pos c5] at H
    have c5b0 : decide (x3_1 < (x0_1.length : Int)) = true := decide_eq_true c5
    clear c5
    by_cases c6 : 0 ≤ x2_1
    rotate_left
    ·rw [if_neg c6] at H; exact absurd H (by simp)
    rw [if_pos c6] at H
    have c6b0 : decide (0 ≤ x2_1) = true := decide_eq_true c6
    clear c6
    by_cases c7 : x2_1 < (x0_1.length : Int)
    rotate_left
    ·rw [if_neg c7] at H; exact absurd H (by simp)
    rw [if_pos c7] at H
    have c7b0 : decide (x2_1 < (x0_1.length : Int)) = true := decide_eq_true c7
    clear c7
    obtain ⟨y127, hy127⟩ : ∃ y_ : List Int, y_ = (x0_1.set (x2_1 : Int).toNat (rd x0_1 x3_1)) := ⟨_, rfl⟩
    replace H : (slices_Reverse_int_int.l0 k1 (y127.set (x3_1 : Int).toNat (rd x0_1 x2_1)) (wrap64 (x2_1 + 1)) (wrap64 (x3_1 - 1))) = some r := by first | (rw [hy127]; with_reducible exact H) | (have H2_ := (Option.bind_some _ _).symm.trans H; rw [hy127]; with_reducible exact H2_) | (have H2_ := (Option.bind_some _ _).symm.trans H; with_reducible exact H2_) | with_reducible exact H | (rw [hy127]; exact H) | exact H
    have Ny127 := Aside0.mk hy127
    clear hy127
    obtain ⟨y128, hy128⟩ : ∃ y_ : List Int, y_ = (y127.set (x3_1 : Int).toNat (rd x0_1 x2_1)) := ⟨_, rfl⟩
    replace H : (slices_Reverse_int_int.l0 k1 y128 (wrap64 (x2_1 + 1)) (wrap64 (x3_1 - 1))) = some r := by first | (rw [hy128]; with_reducible exact H) | (have H2_ := (Option.bind_some _ _).symm.trans H; rw [hy128]; with_reducible exact H2_) | (have H2_ := (Option.bind_some _ _).symm.trans H; with_reducible exact H2_) | with_reducible exact H | (rw [hy128]; exact H) | exact H
    have Ny128 := Aside0.mk hy128
    clear hy128
    have H' := Aside0.mk H
    clear H
    try go_wp2
    have n0_ := Aside0.mk (Kd.R_drew HO_0.out)
    have n1_ := Aside0.mk (Kept.drew HK.out)
    have n2_ := Aside0.mk (below_drew1 HB.out)
    clear HO_0
    clear HK
    clear HB
    have HO_0 := n0_
    have HK := n1_
    have HB := n2_
    clear n0_ n1_ n2_
    have p125 : 0 ≤ (x3_1 : Int) := of_decide_eq_true z3_
    have q125 : x3_1 < (x0_1.length : Int) := of_decide_eq_true z3_
    obtain ⟨ad125, e125, hx125_0⟩ := Kd.at_int (Kd.R_reads' HO_0.out).2.2 x3_1 p125 q125
    cases e125
    replace p125 := eq_true p125
    replace q125 := eq_true q125
    have p126 : 0 ≤ (x2_1 : Int) := of_decide_eq_true z3_
    have q126 : x2_1 < (x0_1.length : Int) := of_decide_eq_true z3_
    obtain ⟨ad126, e126, hx126_0⟩ := Kd.at_int (Kd.R_reads' HO_0.out).2.2 x2_1 p126 q126
    obtain rfl : ad125 = ad126 := (by injection e126)
    replace p126 := eq_true p126
    replace q126 := eq_true q126
    have p8 : 0 ≤ (x2_1 : Int) := of_decide_eq_true z3_
    have q8 : (x2_1 : Int) < ((x0_1.length : Int) : Int) := of_decide_eq_true z3_
    obtain ⟨go8, co8, eo8, gb8, gl8, cl8, HG8⟩ := Kd.R_form HO_0.out (by omega)
    (first | cases eo8 | (injection eo8 with ea_ en_ ec_; (first | subst ea_ | (injection ea_ with ea_; subst ea_)); subst ec_; clear en_))
    have GB8 := Aside0.mk gb8
    have GG8 := Aside0.mk HG8
    clear gb8 gl8 HG8
    have HMgo8 := Aside0.mk (show (P0_ go8 ∨ w.heap.size ≤ go8) from (HO_0.out.1 _ rfl))
    (first | simp only [add_plain] at hx125_0 | skip)
    (first | simp only [add_plain] at hx126_0 | skip)
    obtain ⟨hx8_0, hf8_0⟩ := Kd.R_celln 0 HO_0.out (x2_1 : Int) p8 q8
    replace p8 := eq_true p8
    replace q8 := eq_true q8
    have HP11 := Kd.R_putn HO_0.out (x2_1 : Int) (rd x0_1 x3_1)
    rw [← Ny127.out] at HP11
    have HQ11 := Aside0.mk HP11
    clear HP11
    have p9 : 0 ≤ (x3_1 : Int) := of_decide_eq_true z3_
    have q9 : (x3_1 : Int) < ((x0_1.length : Int) : Int) := of_decide_eq_true z3_
    obtain ⟨hx9_0, hf9_0⟩ := Kd.R_celln 0 HQ11.out (x3_1 : Int) p9 q9
    replace p9 := eq_true p9
    replace q9 := eq_true q9
    have HP12 := Kd.R_putn HQ11.out (x3_1 : Int) (rd x0_1 x2_1)
    rw [← Ny128.out] at HP12
    have HQ12 := Aside0.mk HP12
    clear HP12
    refine start_ (n := 16) (S := fun w' => w'.cell? ⟨go8, (x3_1).toNat, none⟩ = some (.int .i64 (rd x0_1 x3_1)) ∧ w'.cell? ⟨go8, (x2_1).toNat, none⟩ = some (.int .i64 (rd x0_1 x2_1))) (ds := [13, 15]) #[false, false, false, false, false, false, false, false, false, false, false, false, false, false, false, false] (by kernel_rfl) rfl rfl ⟨hx125_0, hx126_0⟩ (fun hHeld => ?_); refine with_tabW slices_Reverse_int_int.tab3 slices_Reverse_int_int.bits3 (fun HT_ HW_ => ?_)
    generalize wr.drew = w10 at HO_0 HK HB GG8 HQ11 HQ12 hf8_0 hf9_0 hx125_0 hx126_0 hx8_0 hx9_0 hHeld ⊢
    refine pz_ 0 (some 14) ?_
    refine pz_ 1 (some 15) ?_
    refine pz_ 2 (some 16) ?_
    refine pz_ 3 (some 17) ?_
    refine pz_ 4 (some 18) ?_
    refine pz_ 5 (some 19) ?_
    refine pz_ 6 (some 20) ?_
    refine pz_ 8 (some 22) ?_
    refine pz_ 9 (some 23) ?_
    refine pz_ 10 (some 24) ?_
    refine tz_ 7 (some 21) hHeld ?_
    refine tz_ 11 (some 25) hHeld ?_
    refine pz_ 12 (some 26) ?_
    refine last_ (i := 13) (N := none) #[true, true, true, true, true, true, true, true, true, true, true, true, true, true, false, false] rfl rfl (one_of HT_.out (by kernel_rfl)) (by decide) (fun K hK => ?_)
    refine skip_ (w1 := ?_) (by rfl) rfl ?_ ?_
    rotate_left
    ·go_simp
     rfl
    refine hK.out _ _ ?_
    clear hK K
    refine pz_ 14 (some 27) ?_
    refine last_ (i := 15) (N := none) #[true, true, true, true, true, true, true, true, true, true, true, true, true, true, true, true] rfl rfl (one_of HT_.out (by kernel_rfl)) (by decide) (fun K hK => ?_)
    refine skip_ (w1 := ?_) (by rfl) rfl ?_ ?_
    rotate_left
    ·go_simp
     rfl
    refine hK.out _ _ ?_
    clear hK K
    refine done_ (done_of HT_.out (by kernel_rfl)) ?_
    try go_wp2
    (try simp only [← hl0_1])
    go_roundg k1
    case measure => have := HK1.out; omega
    case rel => exact ⟨(y128), (wrap64 (x2_1 + 1)), (wrap64 (x3_1 - 1)), z8_, z8_, H', ⟨by have := HK1.out; omega⟩, ⟨by (try simp only [hl0_1]); (with_reducible repeat (first | apply Kd.R_alloc | apply Kd.R_drewN | apply Kd.R_drew)); exact HQ12.out⟩, ⟨by repeat (first | (with_reducible first | exact HK.out | apply Kept.alloc | apply Kept.drewN | apply Kept.drew | refine Kept.setCell ?_ HMgo8.out _ | refine Kept.setCell ?_ HMgo8.out _) | exact HK.out)⟩, ⟨by repeat (first | (with_reducible first | exact HB.out | apply below_alloc | apply pw_below_drewN | apply below_drew1 | refine below_set ?_ GB8.out | refine below_set ?_ GB8.out) | exact HB.out)⟩⟩
   ·rw [if_neg c3] at H
    have c3b0 : decide (x2_1 < x3_1) = false := decide_eq_false c3
    clear c3
    obtain rfl := Option.some.inj H
    go_wp2
    first | go_end0 | ((try simp only [Exit.inBlock, Exit.then]); refine bodyPost_ret (results_none rfl _ _ _) rfl ?_)
    exact ⟨by first | rfl | (simp [errW_none, errW_some] <;> rfl) | (simp [*, errW_none, errW_some] <;> rfl), (by first | exact (by (with_reducible repeat (first | apply Kd.R_alloc | apply Kd.R_drewN | apply Kd.R_drew)); exact HO_0.out) | (simp only [hl0_1]; exact (by (with_reducible repeat (first | apply Kd.R_alloc | apply Kd.R_drewN | apply Kd.R_drew)); exact HO_0.out))), by repeat (first | (with_reducible first | exact HB.out | apply below_alloc | apply pw_below_drewN | apply below_drew1) | exact HB.out), by repeat (first | (with_reducible first | exact HK.out | apply Kept.alloc | apply Kept.drewN | apply Kept.drew) | exact HK.out)⟩
end Go.Proofs.Ytpafhhgoldenoaa.P
end
section
namespace Go.Proofs.Ytpafhhgoldenoaa.P
open Go.RowKit Go.Proofs.YtpafhhgoldenoaaW.PrintWords Go.Proofs.YtpafhhgoldenoaaW.PrintLast Go.Proofs.YtpafhhgoldenoaaW.PrintMore
set_option linter.unusedVariables false
set_option linter.unusedSimpArgs false
def upIdx (l : List S24) (g : Nat) : Option Nat := (List.range g).find? (fun k => decide ((rd_T24 l k).f0 = (rd_T24 l g).f1))
def pathUp (l : List S24) : Nat → Nat → List Int
 | 0, g => [(rd_T24 l g).f0]
 | n + 1, g => (rd_T24 l g).f0 :: (if (rd_T24 l g).f1 = 0 then [] else match upIdx l g with | some k => pathUp l n k | none => [])
def pathP (l : List S24) (i : Nat) : List Int := (pathUp l i i).reverse
theorem upIdx_some {l : List S24} {g k : Nat} (hk : k < g) (h : (rd_T24 l k).f0 = (rd_T24 l g).f1) (hn : ∀ j, j < k → (rd_T24 l j).f0 ≠ (rd_T24 l g).f1) : upIdx l g = some k := by
 unfold upIdx
 rw [List.find?_eq_some_iff_getElem]
 refine ⟨by simpa using h, k, by simpa using hk, by simp, fun j hj => by simpa using hn j hj⟩
theorem upIdx_none {l : List S24} {g : Nat} (hn : ∀ j, j < g → (rd_T24 l j).f0 ≠ (rd_T24 l g).f1) : upIdx l g = none := by
 unfold upIdx
 simp only [List.find?_eq_none, List.mem_range, decide_eq_true_eq]
 exact hn
theorem set_mid {α : Type} (A : List α) (x y : α) (B : List α) (n : Nat) (h : A.length = n) : (A ++ x :: B).set n y = A ++ y :: B := by
 subst h
 simp
theorem rd_mid (A : List Int) (x : Int) (B : List Int) (n : Int) (h : (A.length : Int) = n) : rd (A ++ x :: B) n = x := by
 subst h
 simp [rd]
theorem reverse_go (n : Nat) : ∀ (m : Nat) (M A B : List Int) (i j : Int) (k : Nat), M.length ≤ m → (A.length : Int) = i → (B.length : Int) = i → j = i + M.length - 1 → A.length + M.length + B.length = n → n ≤ 1000000 → m < k →
  slices_Reverse_int_int.l0 k (A ++ M ++ B) i j = some (A ++ M.reverse ++ B) := by
 intro m
 induction m with
 | zero =>
  intro M A B i j k hM hA hB hj hn hb hk
  obtain ⟨k, rfl⟩ : ∃ q, k = q + 1 := ⟨k - 1, by omega⟩
  obtain rfl : M = [] := List.length_eq_zero_iff.1 (by omega)
  simp only [slices_Reverse_int_int.l0]
  rw [if_neg (by simp at hj; omega)]
  simp
 | succ m ih =>
  intro M A B i j k hM hA hB hj hn hb hk
  obtain ⟨k, rfl⟩ : ∃ q, k = q + 1 := ⟨k - 1, by omega⟩
  by_cases h2 : 2 ≤ M.length
  ·cases M with
   | nil => simp at h2
   | cons x M =>
    have hne : M ≠ [] := by intro e; simp [e] at h2
    obtain ⟨M', y, rfl⟩ : ∃ M' y, M = M' ++ [y] := ⟨M.dropLast, M.getLast hne, (List.dropLast_concat_getLast hne).symm⟩
    simp only [List.length_cons, List.length_append, List.length_nil] at hj hM hn h2
    have e1 : A ++ (x :: (M' ++ [y])) ++ B = A ++ x :: (M' ++ y :: B) := by simp
    have e2 : A ++ x :: (M' ++ y :: B) = (A ++ x :: M') ++ y :: B := by simp
    have l1 : ((A ++ x :: M').length : Int) = j := by simp; omega
    simp only [slices_Reverse_int_int.l0]
    rw [e1, if_pos (by omega), if_pos (by omega), if_pos (by simp; omega), if_pos (by omega), if_pos (by simp; omega), rd_mid A x _ i hA]
    rw [show rd (A ++ x :: (M' ++ y :: B)) j = y from by rw [e2]; exact rd_mid _ _ _ _ l1]
    rw [set_mid A x y _ i.toNat (by omega)]
    have e3 : A ++ y :: (M' ++ y :: B) = (A ++ y :: M') ++ y :: B := by simp
    rw [e3, set_mid (A ++ y :: M') y x B j.toNat (by simp; omega)]
    have w1 : wrap64 (i + 1) = i + 1 := by unfold wrap64; omega
    have w2 : wrap64 (j - 1) = j - 1 := by unfold wrap64; omega
    rw [w1, w2]
    have := ih M' (A ++ [y]) (x :: B) (i + 1) (j - 1) k (by omega) (by simp; omega) (by simp; omega) (by omega) (by simp; omega) hb (by omega)
    rw [show (A ++ y :: M') ++ x :: B = (A ++ [y]) ++ M' ++ (x :: B) from by simp, this]
    simp
  ·simp only [slices_Reverse_int_int.l0]
   rw [if_neg (by omega)]
   have : M.reverse = M := by
    match M, h2 with
    | [], _ => rfl
    | [x], _ => rfl
    | _ :: _ :: _, h => simp at h
   rw [this]
theorem reverse_f (l : List Int) (h : l.length ≤ 1000000) : slices_Reverse_int_int.f (l.length + 1) l = some l.reverse := by
 unfold slices_Reverse_int_int.f
 have w1 : wrap64 ((l.length : Int) - 1) = (l.length : Int) - 1 := by unfold wrap64; omega
 rw [w1]
 have := reverse_go l.length l.length l [] [] 0 ((l.length : Int) - 1) (l.length + 1) (Nat.le_refl _) rfl rfl (by omega) (by simp) h (by omega)
 simpa using this
theorem pathUp_le (l : List S24) : ∀ n g, (pathUp l n g).length ≤ n + 1
 | 0, g => by simp [pathUp]
 | n + 1, g => by
  simp only [pathUp, List.length_cons]
  split
  ·simp
  ·split
   ·have := pathUp_le l n ‹_›; omega
   ·simp
theorem reps_one {α : Type} {R : α → List Value → Prop} (x : α) (cs : List Value) (h : R x cs) : Reps R cs.length [x] cs := by
 refine ⟨by simp, fun j p hj => ?_⟩
 cases j with
 | zero => simp at hj; subst hj; simpa using h
 | succ j => simp at hj
set_option maxHeartbeats 4000000 in
set_option maxRecDepth 100000 in
theorem path_calls (A0 : Option Addr) (c0 : Nat) (l0 : List S24) (i : Nat) (w : World) (hr0 : Kd.C k24 w A0 l0.length l0) (hc0 : l0.length ≤ c0) (hi : i < l0.length) (hl : l0.length ≤ 4000) :
  Calls Try.prog 40 #[.slice A0 l0.length c0, .int .i64 i] w fun e w' => ∃ v0_ : Value, e = .returned v0_ ∧ Kd.R (Kd.int .i64) 3 w' w.heap.size (fun _ => True) v0_ (pathP l0 i) ∧ Below w.heap.size w w' := by
 have HR := Aside0.mk hr0
 clear hr0
 obtain ⟨ad, e, x0, x1, x2, x3, x4⟩ := at_T24 HR.out i (by omega) (by omega)
 cases e
 simp only [Int.toNat_natCast] at x0 x1 x2 x3 x4
 have i1 : (0 : Int) ≤ i := by omega
 have i2 : (i : Int) < l0.length := by omega
 have HB := Aside0.mk (Below.refl w.heap.size w)
 go_enter Try.func40, Try.ntmps40
 go_wp2
 go_step3
 go_wp2_with (first | ((with_reducible refine gate_dst (N := 12) rfl ?_); refine Kd.R_lit (w0 := w) (Kd.int .i64) w.heap.size 3 ?hg (N := 12) ?hd (xs := [(rd_T24 l0 i).f0]) (inner := [.int .i64 (rd_T24 l0 i).f0]) (ok := fun _ => True) (okp := fun _ => True) ?hr ?hp (fun _ hk => hk) trivial HB.out (Nat.le_refl _) (by simp) ?_; (case hd => rfl); (case hg => rfl); (case hr => exact z11_); (case hp => exact reps_one _ _ rfl); intro v12 w12 ho hb _ _; have HO := Aside0.mk ho; have HB2 := Aside0.mk hb; clear ho hb))
 go_step3
 go_wp2
 clear x0 x1 x2 x3 x4 i1 i2 HB
 go_loopg [1, 5] i (fun g v1 v5 w' => ∃ (q : Nat) (acc : List Int), v1 = .int .i64 q ∧ q ≤ g ∧ q < l0.length ∧ acc.length + g ≤ i ∧ Aside0 (acc ++ pathUp l0 g q = pathUp l0 i i) ∧ Aside0 (Kd.R (Kd.int .i64) 3 w' w.heap.size (fun _ => True) v5 (acc ++ [(rd_T24 l0 q).f0])) ∧ Aside0 (Below w.heap.size w w'))
 case atStart => exact ⟨i, [], rfl, Nat.le_refl _, hi, by simp, ⟨rfl⟩, HO, HB2⟩
 case round =>
  clear HO HB2
  obtain ⟨q, acc, rfl, hq1, hq2, hacc, HA, HO, HB⟩ := hrel
  obtain ⟨ad, e, x0, x1, x2, x3, x4⟩ := at_T24 (Kd.C_below HR.out HB.out) q (by omega) (by omega)
  cases e
  simp only [Int.toNat_natCast] at x0 x1 x2 x3 x4
  have i1 : (0 : Int) ≤ q := by omega
  have i2 : (q : Int) < l0.length := by omega
  by_cases hp : (rd_T24 l0 q).f1 = 0
  ·have hpb : ((rd_T24 l0 q).f1 != 0) = false := by simpa using hp
   have hend : Aside0 (acc ++ [(rd_T24 l0 q).f0] = pathUp l0 i i) := ⟨by
    rw [← HA.out]
    cases gk with
    | zero => rfl
    | succ n => simp only [pathUp]; rw [if_pos hp]⟩
   clear hp x0 x2 x3 x4
   have hre : Aside0 (slices_Reverse_int_int.f ((pathUp l0 i i).length + 1) (pathUp l0 i i) = some (pathP l0 i)) := ⟨reverse_f _ (by have := pathUp_le l0 i i; omega)⟩
   go_wp2_with (first | (go_at_call 54; (with_reducible refine (slices_Reverse_int_int.calls ((pathUp l0 i i).length + 1) (fun _ => True) _ (pathUp l0 i i) (pathP l0 i) w _ HB.out (by rw [← hend.out]; exact HO.out) hre.out).mono ?_); rintro e w3 ⟨rfl, ho3, hb3, _⟩; have HO3 := Aside0.mk ho3; have HB3 := Aside0.mk hb3; clear ho3 hb3))
   try rw [Exit.noGoto_ret]
   go_ret
   exact ⟨_, rfl, Kd.R_mono HO3.out (fun _ _ => trivial), HB3.out⟩
  ·have hpb : ((rd_T24 l0 q).f1 != 0) = true := by simpa using hp
   go_wp2
   clear i1 i2
   obtain ⟨wo, rfl⟩ : ∃ wo : World, wo = wr := ⟨_, rfl⟩
   obtain ⟨G, rfl⟩ : ∃ G : Nat, G = gk := ⟨_, rfl⟩
   have X1 := Aside0.mk x1
   clear x0 x1 x2 x3 x4
   go_loopg [1, 5, 6, 20] q (fun d v1 v5 _ v20 w' => ∃ k : Nat, v1 = .int .i64 q ∧ v20 = .int .i64 k ∧ Aside0 (Kd.R (Kd.int .i64) 3 w' w.heap.size (fun _ => True) v5 (acc ++ [(rd_T24 l0 q).f0])) ∧ d = q - k ∧ k ≤ q ∧ Aside0 (∀ j, j < k → (rd_T24 l0 j).f0 ≠ (rd_T24 l0 q).f1) ∧ Drawn0 wo w')
   case atStart => exact ⟨0, rfl, rfl, HO, rfl, by omega, ⟨fun j hj => by omega⟩, Drawn0.refl _⟩
   case round =>
    obtain ⟨k, rfl, rfl, HOr, hd, hk, HN, hdr⟩ := hrel
    have HBr := Aside0.mk (HB.out.trans (hdr.below.mono HB.out.size))
    have x1 := (hdr.below.cell (p := ⟨(ad.add (q * 5)).block, (ad.add (q * 5)).off + 1, none⟩) (World.block_lt_of_cell? wo _ X1.out)).trans X1.out
    clear HO
    have HDR := Aside0.mk hdr
    clear hdr
    by_cases hkq : k < q
    ·obtain ⟨ad2, e, y0, _, _, _, _⟩ := at_T24 (Kd.C_below HR.out HBr.out) k (by omega) (by omega)
     obtain rfl : ad = ad2 := by injection e
     clear e
     simp only [Int.toNat_natCast] at y0
     have i1 : (0 : Int) ≤ q := by omega
     have i2 : (q : Int) < l0.length := by omega
     have i3 : (0 : Int) ≤ k := by omega
     have i4 : (k : Int) < l0.length := by omega
     by_cases he : (rd_T24 l0 k).f0 = (rd_T24 l0 q).f1
     ·have heb : ((rd_T24 l0 k).f0 == (rd_T24 l0 q).f1) = true := by simpa using he
      cases G with
      | zero => omega
      | succ n =>
       have hA2 : Aside0 ((acc ++ [(rd_T24 l0 q).f0]) ++ pathUp l0 n k = pathUp l0 i i) := ⟨by
        rw [← HA.out]
        simp only [pathUp]
        rw [if_neg hp, upIdx_some hkq he HN.out]
        simp⟩
       have hlen : Aside0 (((acc ++ [(rd_T24 l0 q).f0]).length + 1) * 8 ≤ 140737488355328) := ⟨by simp; omega⟩
       clear he hp
       go_wp2
       go_quiet (fail)
       go_wp2_with (first | ((with_reducible refine gate_builtin (b := .append) (xs := #[.tmp 34, .tmp 40]) rfl ?_); at_builtin; refine Kd.R_append (Kd.int .i64) (w0 := w) w.heap.size rfl (.tmp 34) (.tmp 40) 30 3 (.int .i64 0) 8 rfl Try.underlying30 info3 rfl (by decide) (by omega) _ (acc ++ [(rd_T24 l0 q).f0]) ((rd_T24 l0 k).f0) [.int .i64 ((rd_T24 l0 k).f0)] (fun _ => True) (fun _ => False) rfl rfl rfl (fun _ hk => hk.elim) (fun _ _ => trivial) ?aO ?aB ?aS hlen.out ?_; (case aO => first | exact HOr.out | exact Kd.R_drewN HOr.out _ | exact Kd.R_drew HOr.out); (case aB => first | exact HBr.out | exact pw_below_drewN HBr.out _ | exact below_drew1 HBr.out); (case aS => exact HBr.out.size); intro v1 w5 ho5 hb5 hg5 _; have HO5 := Aside0.mk ho5; have HB5 := Aside0.mk hb5; clear ho5 hb5 hg5))
       go_roundg n
       case measure => omega
       case rel => exact ⟨k, _, rfl, by omega, by omega, by simp; omega, hA2, HO5, HB5⟩
     ·have heb : ((rd_T24 l0 k).f0 == (rd_T24 l0 q).f1) = false := by simpa using he
      have HN2 : Aside0 (∀ j, j < k + 1 → (rd_T24 l0 j).f0 ≠ (rd_T24 l0 q).f1) := ⟨fun j hj => by
       by_cases e : j = k
       ·subst e; exact he
       ·exact HN.out j (by omega)⟩
      clear he
      go_wp2
      go_quiet (fail)
      go_wp2
      go_roundg (q - (k + 1))
      case measure => omega
      case rel => exact ⟨k + 1, rfl, by go_num, ⟨Kd.R_drewN HOr.out _⟩, rfl, by omega, HN2, HDR.out.step _⟩
    ·obtain rfl : k = q := by omega
     have hend : Aside0 (acc ++ [(rd_T24 l0 k).f0] = pathUp l0 i i) := ⟨by
      rw [← HA.out]
      cases G with
      | zero => rfl
      | succ n => simp only [pathUp]; rw [if_neg hp, upIdx_none HN.out]⟩
     have hre : Aside0 (slices_Reverse_int_int.f ((pathUp l0 i i).length + 1) (pathUp l0 i i) = some (pathP l0 i)) := ⟨reverse_f _ (by have := pathUp_le l0 i i; omega)⟩
     clear hp x1
     go_wp2_with (first | (go_at_call 54; (with_reducible refine (slices_Reverse_int_int.calls ((pathUp l0 i i).length + 1) (fun _ => True) _ (pathUp l0 i i) (pathP l0 i) w _ HBr.out (by rw [← hend.out]; exact HOr.out) hre.out).mono ?_); rintro e w3 ⟨rfl, ho3, hb3, _⟩; have HO3 := Aside0.mk ho3; have HB3 := Aside0.mk hb3; clear ho3 hb3))
     try rw [Exit.noGoto_ret]
     go_ret
     exact ⟨_, rfl, Kd.R_mono HO3.out (fun _ _ => trivial), HB3.out⟩
def tree_path.f (l0 : List S24) (a1 : Int) : Option (List Int) := if 0 ≤ a1 ∧ a1 < l0.length ∧ l0.length ≤ 4000 then some (pathP l0 a1.toNat) else none
theorem tree_path.calls (A0 : Option Addr) (c0 : Nat) (l0 : List S24) (a1 : Int) (r : List Int) (w : World) (hr0 : Kd.C k24 w A0 l0.length l0) (hc0 : l0.length ≤ c0) (h : tree_path.f l0 a1 = some r) :
  Calls Try.prog 40 #[.slice A0 l0.length c0, .int .i64 a1] w fun e w' => ∃ v0_ : Value, e = .returned (v0_) ∧ Kd.R (Kd.int .i64) 3 w' w.heap.size (fun _ => True) v0_ r ∧ Below w.heap.size w w' := by
 unfold tree_path.f at h
 split at h
 ·rename_i hc
  obtain rfl := Option.some.inj h
  obtain ⟨n, rfl⟩ := Int.eq_ofNat_of_zero_le hc.1
  exact path_calls A0 c0 l0 n w hr0 hc0 (by omega) hc.2.2
 ·cases h
end Go.Proofs.Ytpafhhgoldenoaa.P
end
section
namespace Go.Proofs.Ytpafhhgoldenoaa.P
open Go.RowKit Go.Proofs.YtpafhhgoldenoaaW.PrintWords Go.Proofs.YtpafhhgoldenoaaW.PrintLast Go.Proofs.YtpafhhgoldenoaaW.PrintMore
attribute [local go_sem] max2_int min2_int max_two min_two max_three min_three max_four min_four
set_option linter.unusedVariables false
set_option linter.unusedSimpArgs false
def tree_Path.f (l0 : List (S24)) (a1 : Int) : Option (List Int × Int) := (tree_get.f l0 a1).bind fun bt129 => (if bt129.2 = 0 then ((tree_path.f l0 bt129.1).bind fun t131 => (some (t131, 0))) else (some (([] : List Int), bt129.2)))
set_option maxHeartbeats 8000000 in
set_option maxRecDepth 100000 in
theorem tree_Path.calls (A0 : Option Addr) (c0 : Nat) (l0 : List (S24)) (a1 : Int) (r1 : List Int) (r2 : Int) (w : World) (hr0 : Kd.C k24 w A0 l0.length l0) (hc0 : l0.length ≤ c0) (h : tree_Path.f l0 a1 = some (r1, r2)) :
  Calls Try.prog 18 #[.slice A0 l0.length c0, .int .i64 a1] w fun e w' => ∃ v0_ : Value, e = .returned (.tuple #[v0_, .int .i64 r2]) ∧ Kd.R (Kd.int .i64) 3 w' w.heap.size (fun _ => True) v0_ r1 ∧ Below w.heap.size w w' := by
 have HR0 := Aside0.mk hr0
 have HC0 := Aside0.mk hc0
 clear hr0 hc0
 have HB := Aside0.mk (Below.refl w.heap.size w)
 have H : ((tree_get.f l0 a1).bind fun bt129 => (if bt129.2 = 0 then ((tree_path.f l0 bt129.1).bind fun t131 => (some (t131, 0))) else (some (([] : List Int), bt129.2)))) = some (r1, r2) := h
 clear h
 replace H := Option.bind_eq_some_iff.mp H
 obtain ⟨⟨t129, t130⟩, A30, H⟩ := H
 try dsimp only at H
 have A3 := Aside0.mk A30
 clear A30
 by_cases c4 : t130 = 0
 ·rw [if_pos c4] at H
  have c4b0 : (t130 == 0) = true := beq_iff_eq.mpr c4
  have c4b1 : (t130 != 0) = false := bne_eq_false_iff_eq.mpr c4
  clear c4
  replace H := Option.bind_eq_some_iff.mp H
  obtain ⟨t131, A50, H⟩ := H
  try dsimp only at H
  have A5 := Aside0.mk A50
  clear A50
  simp only [Option.some.injEq, Prod.mk.injEq] at H
  obtain ⟨rfl, rfl⟩ := H
  go_enter Try.func18, Try.ntmps18
  go_wp2_with (first | ((with_reducible refine gate_callee (f := 37) rfl ?_); refine goesL_ (some 11) rfl rfl Try.func37 (by kernel_rfl) rfl #[.slice A0 l0.length c0, .int .i64 a1] rfl z2_ ?_; (with_reducible refine (tree_get.calls _ _ l0 a1 t129 t130 _ ?side1 ?side2 A3.out).mono ?_); (case side1 => exact z9_); (case side2 => exact HC0.out); rintro e w6 ⟨rfl, hb⟩; refine ⟨_, rfl, ?_⟩; have n0_ := Aside0.mk (below_step z1_ hb); clear HB; have HB := n0_; clear n0_; (try clear hb); (try clear hb2); (try clear hk); (try clear hi)) | ((with_reducible refine gate_callee (f := 40) rfl ?_); refine goesL_ (some 19) rfl rfl Try.func40 (by kernel_rfl) rfl #[.slice A0 l0.length c0, .int .i64 t129] rfl z2_ ?_; (with_reducible refine (tree_path.calls _ _ l0 t129 t131 _ ?side1 ?side2 A5.out).mono ?_); (case side1 => exact z10_); (case side2 => exact HC0.out); rintro e w7 ⟨v132, rfl, ho0, hb⟩; refine ⟨_, rfl, ?_⟩; have n0_ := Aside0.mk (Kd.R_lower ho0 (below_size z1_)); have n1_ := Aside0.mk (below_step z1_ hb); clear HB; have HO133 := n0_; have HB := n1_; clear n0_ n1_; (try clear hb); (try clear hb2); (try clear hk); (try clear hi); (try clear ho0)))
  go_ret2
  exact ⟨_, by first | rfl | (simp [errW_none, errW_some] <;> rfl) | (simp [*, errW_none, errW_some] <;> rfl), by (with_reducible repeat (first | apply Kd.R_alloc | apply Kd.R_drewN | apply Kd.R_drew)); exact HO133.out, by repeat (first | (with_reducible first | exact HB.out | apply below_alloc | apply pw_below_drewN | apply below_drew1) | exact HB.out)⟩
 ·rw [if_neg c4] at H
  have c4b0 : (t130 == 0) = false := beq_eq_false_iff_ne.mpr c4
  have c4b1 : (t130 != 0) = true := bne_iff_ne.mpr c4
  simp only [Option.some.injEq, Prod.mk.injEq] at H
  obtain ⟨rfl, rfl⟩ := H
  go_enter Try.func18, Try.ntmps18
  go_wp2_with (first | ((with_reducible refine gate_callee (f := 37) rfl ?_); refine goesL_ (some 11) rfl rfl Try.func37 (by kernel_rfl) rfl #[.slice A0 l0.length c0, .int .i64 a1] rfl z2_ ?_; (with_reducible refine (tree_get.calls _ _ l0 a1 t129 t130 _ ?side1 ?side2 A3.out).mono ?_); (case side1 => exact z9_); (case side2 => exact HC0.out); rintro e w8 ⟨rfl, hb⟩; refine ⟨_, rfl, ?_⟩; have n0_ := Aside0.mk (below_step z1_ hb); clear HB; have HB := n0_; clear n0_; (try clear hb); (try clear hb2); (try clear hk); (try clear hi)))
  go_ret2
  exact ⟨_, by first | rfl | (simp [errW_none, errW_some] <;> rfl) | (simp [*, errW_none, errW_some] <;> rfl), by first | exact Kd.R_nil _ _ _ _ _ | exact Kd.N_nil _ _ _ _ _ | exact Kd.V_nil _ _ _ _ _ | exact Kd.Q_nil _ _ _ _ _ | exact Kd.S_nil _ _ _ _ _, by repeat (first | (with_reducible first | exact HB.out | apply below_alloc | apply pw_below_drewN | apply below_drew1) | exact HB.out)⟩
end Go.Proofs.Ytpafhhgoldenoaa.P
end
section
namespace Go.Proofs.Ytpafhhgoldenoaa.P
open Go.RowKit Go.Proofs.YtpafhhgoldenoaaW.PrintWords Go.Proofs.YtpafhhgoldenoaaW.PrintLast Go.Proofs.YtpafhhgoldenoaaW.PrintMore
attribute [local go_sem] max2_int min2_int max_two min_two max_three min_three max_four min_four
set_option linter.unusedVariables false
set_option linter.unusedSimpArgs false
theorem eqA24 (d : Nat) (w : World) (x0 y0 : Int) (x1 y1 : Int) (x2 y2 : Int) (x3 y3 : Int) (x4 y4 : ByteArray) :
  (Op.equalIn (d + 2) 24 (.agg #[.int .i64 x0, .int .i64 x1, .int .i64 x2, .int .i64 x3, .string x4]) (.agg #[.int .i64 y0, .int .i64 y1, .int .i64 y2, .int .i64 y3, .string y4])).run Try.prog w = .ok (x0 == y0 && (x1 == y1 && (x2 == y2 && (x3 == y3 && (x4.toList == y4.toList))))) w := by
 refine eqA_of Try.underlying24 (by kernel_rfl) ?_
 refine eqf_cons (by rfl) (by go_simp; rfl) (by go_simp; rfl) (by go_simp) ?_
 refine eqf_cons (by rfl) (by go_simp; rfl) (by go_simp; rfl) (by go_simp) ?_
 refine eqf_cons (by rfl) (by go_simp; rfl) (by go_simp; rfl) (by go_simp) ?_
 refine eqf_cons (by rfl) (by go_simp; rfl) (by go_simp; rfl) (by go_simp) ?_
 exact eqf_last (by rfl) (by go_simp; rfl) (by go_simp; rfl) (by go_simp)
end Go.Proofs.Ytpafhhgoldenoaa.P
end
section
namespace Go.Proofs.Ytpafhhgoldenoaa.P
open Go.RowKit Go.Proofs.YtpafhhgoldenoaaW.PrintWords Go.Proofs.YtpafhhgoldenoaaW.PrintLast Go.Proofs.YtpafhhgoldenoaaW.PrintMore
attribute [local go_sem] max2_int min2_int max_two min_two max_three min_three max_four min_four
set_option linter.unusedVariables false
set_option linter.unusedSimpArgs false
attribute [local go_sem high] eqA24
def formeref10_Same.l0 : Nat → List (S24) → List (S24) → Int → Option (Bool)
 | 0, _, _, _ => none
 | k + 1, x0, x1, x5 => if x5 < (x0.length : Int) then (if 0 ≤ x5 then (if x5 < (x1.length : Int) then (if (!(((rd_T24 x0 x5).f0) == ((rd_T24 x1 x5).f0)) || (!(((rd_T24 x0 x5).f1) == ((rd_T24 x1 x5).f1)) || (!(((rd_T24 x0 x5).f2) == ((rd_T24 x1 x5).f2)) || (!(((rd_T24 x0 x5).f3) == ((rd_T24 x1 x5).f3)) || (!((((rd_T24 x0 x5).f4).toList) == (((rd_T24 x1 x5).f4).toList))))))) = true then (some false) else (formeref10_Same.l0 k x0 x1 (wrap64 (x5 + 1)))) else (none)) else (none)) else (some true)
def formeref10_Same.f (k : Nat) (l0 : List (S24)) (l1 : List (S24)) : Option (Bool) := if (l0.length : Int) = (l1.length : Int) then (formeref10_Same.l0 k l0 l1 0) else (some false)
theorem formeref10_Same.mono_l : ∀ k, (∀ y0 y1 y2, LeO (formeref10_Same.l0 k y0 y1 y2) (formeref10_Same.l0 (k + 1) y0 y1 y2))
 | 0 => fun _ _ _ r h => by simp [formeref10_Same.l0] at h
 | k + 1 => by
  have ih0 := formeref10_Same.mono_l k
  ·intro y0 y1 y2
   unfold formeref10_Same.l0
   repeat' first
   | (with_reducible exact ih0 _ _ _)
   | (with_reducible exact LeO.refl _)
   | (with_reducible exact LeO.none _)
   | (with_reducible refine LeO.ite ?_ ?_)
   | (with_reducible refine LeO.bind ?_ (fun _ => ?_))
   | exact ih0 _ _ _
   | exact LeO.none _
   | refine LeO.ite ?_ ?_
   | refine LeO.bind ?_ (fun _ => ?_)
theorem formeref10_Same.mono : ∀ a0 a1 k, LeO (formeref10_Same.f k a0 a1) (formeref10_Same.f (k + 1) a0 a1) := by
 intro a0 a1 k
 have ih0 := formeref10_Same.mono_l k
 unfold formeref10_Same.f
 repeat' first
   | (with_reducible exact ih0 _ _ _)
   | (with_reducible exact LeO.refl _)
   | (with_reducible exact LeO.none _)
   | (with_reducible refine LeO.ite ?_ ?_)
   | (with_reducible refine LeO.bind ?_ (fun _ => ?_))
   | exact ih0 _ _ _
   | exact LeO.none _
   | refine LeO.ite ?_ ?_
   | refine LeO.bind ?_ (fun _ => ?_)
set_option maxHeartbeats 8000000 in
set_option maxRecDepth 100000 in
theorem formeref10_Same.calls (k : Nat) (A0 : Option Addr) (c0 : Nat) (l0 : List (S24)) (A1 : Option Addr) (c1 : Nat) (l1 : List (S24)) (r : Bool) (w : World) (hr0 : Kd.C k24 w A0 l0.length l0) (hc0 : l0.length ≤ c0) (hr1 : Kd.C k24 w A1 l1.length l1) (hc1 : l1.length ≤ c1) (h : formeref10_Same.f k l0 l1 = some r) :
  Calls Try.prog 22 #[.slice A0 l0.length c0, .slice A1 l1.length c1] w fun e w' => e = .returned (.bool r) ∧ Drawn0 w w' := by
 have hu24 := Try.underlying24
 have HR0 := Aside0.mk hr0
 have HC0 := Aside0.mk hc0
 clear hr0 hc0
 have HR1 := Aside0.mk hr1
 have HC1 := Aside0.mk hc1
 clear hr1 hc1
 have H : (if (l0.length : Int) = (l1.length : Int) then (formeref10_Same.l0 k l0 l1 0) else (some false)) = some r := h
 clear h
 by_cases c3 : (l0.length : Int) = (l1.length : Int)
 ·rw [if_pos c3] at H
  have c3b0 : ((l0.length : Int) == (l1.length : Int)) = true := beq_iff_eq.mpr c3
  have c3b1 : ((l0.length : Int) != (l1.length : Int)) = false := bne_eq_false_iff_eq.mpr c3
  have c3b2 : (l0.length == l1.length) = true := by first | simpa using c3 | (simp at c3 ⊢; omega)
  clear c3
  have H' := Aside0.mk H
  clear H
  go_enter Try.func22, Try.ntmps22
  go_wp2
  repeat (go_quiet (fail); try go_wp2)
  go_loopg [5] k (fun kq v5 w' => ∃ (x5_1 : Int), v5 = .int .i64 x5_1 ∧ Aside0 (formeref10_Same.l0 kq l0 l1 x5_1 = some r) ∧ Aside0 (kq ≤ k) ∧ Drawn0 w w')
  case atStart => exact ⟨(0), z8_, H', ⟨Nat.le_refl _⟩, by repeat (first | exact Drawn0.refl _ | apply Drawn0.step)⟩
  case round =>
   clear H'
   try clear c1
   try clear c2
   try clear p2
   try clear c3
   try clear c3b0
   try clear c3b1
   try clear c3b2
   obtain ⟨x5_1, rfl, HA, HK1, ⟨m1, rfl⟩⟩ := hrel
   cases gk with
   | zero => exact absurd HA.out (by simp [formeref10_Same.l0])
   | succ k1 =>
    have H := HA.out
    clear HA
    simp only [formeref10_Same.l0] at H
    by_cases c4 : x5_1 < (l0.length : Int)
    ·rw [if_pos c4] at H
     have c4b0 : decide (x5_1 < (l0.length : Int)) = true := decide_eq_true c4
     clear c4
     by_cases c5 : 0 ≤ x5_1
     rotate_left
     ·rw [if_neg c5] at H; exact absurd H (by simp)
     rw [if_pos c5] at H
     have c5b0 : decide (0 ≤ x5_1) = true := decide_eq_true c5
     clear c5
     by_cases c6 : x5_1 < (l1.length : Int)
     rotate_left
     ·rw [if_neg c6] at H; exact absurd H (by simp)
     rw [if_pos c6] at H
     have c6b0 : decide (x5_1 < (l1.length : Int)) = true := decide_eq_true c6
     clear c6
     by_cases c7 : (!(((rd_T24 l0 x5_1).f0) == ((rd_T24 l1 x5_1).f0)) || (!(((rd_T24 l0 x5_1).f1) == ((rd_T24 l1 x5_1).f1)) || (!(((rd_T24 l0 x5_1).f2) == ((rd_T24 l1 x5_1).f2)) || (!(((rd_T24 l0 x5_1).f3) == ((rd_T24 l1 x5_1).f3)) || (!((((rd_T24 l0 x5_1).f4).toList) == (((rd_T24 l1 x5_1).f4).toList))))))) = true
     ·rw [if_pos c7] at H
      have c7b0 : (!(((rd_T24 l0 x5_1).f0) == ((rd_T24 l1 x5_1).f0)) || (!(((rd_T24 l0 x5_1).f1) == ((rd_T24 l1 x5_1).f1)) || (!(((rd_T24 l0 x5_1).f2) == ((rd_T24 l1 x5_1).f2)) || (!(((rd_T24 l0 x5_1).f3) == ((rd_T24 l1 x5_1).f3)) || (!((((rd_T24 l0 x5_1).f4).toList) == (((rd_T24 l1 x5_1).f4).toList))))))) = true := c7
      clear c7
      obtain rfl := Option.some.inj H
      have p137 : 0 ≤ (x5_1 : Int) := of_decide_eq_true z3_
      have q137 : x5_1 < (l0.length : Int) := of_decide_eq_true z3_
      obtain ⟨ad137, e137, hx137_0, hx137_1, hx137_2, hx137_3, hx137_4⟩ := at_T24 HR0.out x5_1 p137 q137
      cases e137
      replace p137 := eq_true p137
      replace q137 := eq_true q137
      have p138 : 0 ≤ (x5_1 : Int) := of_decide_eq_true z3_
      have q138 : x5_1 < (l1.length : Int) := of_decide_eq_true z3_
      obtain ⟨ad138, e138, hx138_0, hx138_1, hx138_2, hx138_3, hx138_4⟩ := at_T24 HR1.out x5_1 p138 q138
      cases e138
      replace p138 := eq_true p138
      replace q138 := eq_true q138
      go_wp2
      repeat (go_quiet (fail); try go_wp2)
      go_ret
      exact ⟨by first | rfl | (simp; done) | (simp [*]; done), by repeat (first | exact Drawn0.refl _ | apply Drawn0.step)⟩
     ·rw [if_neg c7] at H
      have c7b0 : (!(((rd_T24 l0 x5_1).f0) == ((rd_T24 l1 x5_1).f0)) || (!(((rd_T24 l0 x5_1).f1) == ((rd_T24 l1 x5_1).f1)) || (!(((rd_T24 l0 x5_1).f2) == ((rd_T24 l1 x5_1).f2)) || (!(((rd_T24 l0 x5_1).f3) == ((rd_T24 l1 x5_1).f3)) || (!((((rd_T24 l0 x5_1).f4).toList) == (((rd_T24 l1 x5_1).f4).toList))))))) = false := by simpa using c7
      clear c7
      have H' := Aside0.mk H
      clear H
      have p137 : 0 ≤ (x5_1 : Int) := of_decide_eq_true z3_
      have q137 : x5_1 < (l0.length : Int) := of_decide_eq_true z3_
      obtain ⟨ad137, e137, hx137_0, hx137_1, hx137_2, hx137_3, hx137_4⟩ := at_T24 HR0.out x5_1 p137 q137
      cases e137
      replace p137 := eq_true p137
      replace q137 := eq_true q137
      have p138 : 0 ≤ (x5_1 : Int) := of_decide_eq_true z3_
      have q138 : x5_1 < (l1.length : Int) := of_decide_eq_true z3_
      obtain ⟨ad138, e138, hx138_0, hx138_1, hx138_2, hx138_3, hx138_4⟩ := at_T24 HR1.out x5_1 p138 q138
      cases e138
      replace p138 := eq_true p138
      replace q138 := eq_true q138
      go_wp2
      repeat (go_quiet (fail); try go_wp2)
      go_roundg k1
      case measure => have := HK1.out; omega
      case rel => exact ⟨(wrap64 (x5_1 + 1)), z8_, H', ⟨by have := HK1.out; omega⟩, by repeat (first | exact Drawn0.refl _ | apply Drawn0.step)⟩
    ·rw [if_neg c4] at H
     have c4b0 : decide (x5_1 < (l0.length : Int)) = false := decide_eq_false c4
     clear c4
     obtain rfl := Option.some.inj H
     go_wp2
     repeat (go_quiet (fail); try go_wp2)
     go_ret
     exact ⟨by first | rfl | (simp; done) | (simp [*]; done), by repeat (first | exact Drawn0.refl _ | apply Drawn0.step)⟩
 ·rw [if_neg c3] at H
  have c3b0 : ((l0.length : Int) == (l1.length : Int)) = false := beq_eq_false_iff_ne.mpr c3
  have c3b1 : ((l0.length : Int) != (l1.length : Int)) = true := bne_iff_ne.mpr c3
  have c3b2 : (l0.length == l1.length) = false := by first | simpa using c3 | (simp at c3 ⊢; omega)
  obtain rfl := Option.some.inj H
  go_enter Try.func22, Try.ntmps22
  go_wp2
  repeat (go_quiet (fail); try go_wp2)
  go_ret
  exact ⟨by first | rfl | (simp; done) | (simp [*]; done), by repeat (first | exact Drawn0.refl _ | apply Drawn0.step)⟩
end Go.Proofs.Ytpafhhgoldenoaa.P
end
section
namespace Go.Proofs.Ytpafhhgoldenoaa.P
open Go.RowKit Go.Proofs.YtpafhhgoldenoaaW.PrintWords Go.Proofs.YtpafhhgoldenoaaW.PrintLast Go.Proofs.YtpafhhgoldenoaaW.PrintMore
attribute [local go_sem] max2_int min2_int max_two min_two max_three min_three max_four min_four
set_option linter.unusedVariables false
set_option linter.unusedSimpArgs false
def tree_Remove.f (l0 : List (S24)) (a1 : Int) : Option ((List (S24)) × Int) := (tree_get.f l0 a1).bind fun bt139 => (if bt139.2 = 0 then (if bt139.1 = 0 then (some (([] : List (S24)), 24)) else ((tree_split.f l0 a1).bind fun bt141 => (some (bt141.1, 0)))) else (some (([] : List (S24)), bt139.2)))
set_option maxHeartbeats 8000000 in
set_option maxRecDepth 100000 in
theorem tree_Remove.calls (A0 : Option Addr) (c0 : Nat) (l0 : List (S24)) (a1 : Int) (r1 : List (S24)) (r2 : Int) (w : World) (hr0 : Kd.C k24 w A0 l0.length l0) (hc0 : l0.length ≤ c0) (h : tree_Remove.f l0 a1 = some (r1, r2)) :
  Calls Try.prog 23 #[.slice A0 l0.length c0, .int .i64 a1] w fun e w' => ∃ v0_ : Value, e = .returned (.tuple #[v0_, .int .i64 r2]) ∧ Kd.R k24 24 w' w.heap.size (fun _ => True) v0_ r1 ∧ Below w.heap.size w w' := by
 have HR0 := Aside0.mk hr0
 have HC0 := Aside0.mk hc0
 clear hr0 hc0
 have HB := Aside0.mk (Below.refl w.heap.size w)
 have H : ((tree_get.f l0 a1).bind fun bt139 => (if bt139.2 = 0 then (if bt139.1 = 0 then (some (([] : List (S24)), 24)) else ((tree_split.f l0 a1).bind fun bt141 => (some (bt141.1, 0)))) else (some (([] : List (S24)), bt139.2)))) = some (r1, r2) := h
 clear h
 replace H := Option.bind_eq_some_iff.mp H
 obtain ⟨⟨t139, t140⟩, A30, H⟩ := H
 try dsimp only at H
 have A3 := Aside0.mk A30
 clear A30
 by_cases c4 : t140 = 0
 ·rw [if_pos c4] at H
  have c4b0 : (t140 == 0) = true := beq_iff_eq.mpr c4
  have c4b1 : (t140 != 0) = false := bne_eq_false_iff_eq.mpr c4
  clear c4
  by_cases c5 : t139 = 0
  ·rw [if_pos c5] at H
   have c5b0 : (t139 == 0) = true := beq_iff_eq.mpr c5
   have c5b1 : (t139 != 0) = false := bne_eq_false_iff_eq.mpr c5
   clear c5
   simp only [Option.some.injEq, Prod.mk.injEq] at H
   obtain ⟨rfl, rfl⟩ := H
   go_enter Try.func23, Try.ntmps23
   go_wp2_with (first | ((with_reducible refine gate_callee (f := 37) rfl ?_); refine goesL_ (some 13) rfl rfl Try.func37 (by kernel_rfl) rfl #[.slice A0 l0.length c0, .int .i64 a1] rfl z2_ ?_; (with_reducible refine (tree_get.calls _ _ l0 a1 t139 t140 _ ?side1 ?side2 A3.out).mono ?_); (case side1 => exact z9_); (case side2 => exact HC0.out); rintro e w6 ⟨rfl, hb⟩; refine ⟨_, rfl, ?_⟩; have n0_ := Aside0.mk (below_step z1_ hb); clear HB; have HB := n0_; clear n0_; (try clear hb); (try clear hb2); (try clear hk); (try clear hi)))
   go_ret2
   exact ⟨_, by first | rfl | (simp [errW_none, errW_some] <;> rfl) | (simp [*, errW_none, errW_some] <;> rfl), by first | exact Kd.R_nil _ _ _ _ _ | exact Kd.N_nil _ _ _ _ _ | exact Kd.V_nil _ _ _ _ _ | exact Kd.Q_nil _ _ _ _ _ | exact Kd.S_nil _ _ _ _ _, by repeat (first | (with_reducible first | exact HB.out | apply below_alloc | apply pw_below_drewN | apply below_drew1) | exact HB.out)⟩
  ·rw [if_neg c5] at H
   have c5b0 : (t139 == 0) = false := beq_eq_false_iff_ne.mpr c5
   have c5b1 : (t139 != 0) = true := bne_iff_ne.mpr c5
   replace H := Option.bind_eq_some_iff.mp H
   obtain ⟨⟨t141, t142⟩, A70, H⟩ := H
   try dsimp only at H
   have A7 := Aside0.mk A70
   clear A70
   simp only [Option.some.injEq, Prod.mk.injEq] at H
   obtain ⟨rfl, rfl⟩ := H
   go_enter Try.func23, Try.ntmps23
   go_wp2_with (first | ((with_reducible refine gate_callee (f := 37) rfl ?_); refine goesL_ (some 13) rfl rfl Try.func37 (by kernel_rfl) rfl #[.slice A0 l0.length c0, .int .i64 a1] rfl z2_ ?_; (with_reducible refine (tree_get.calls _ _ l0 a1 t139 t140 _ ?side1 ?side2 A3.out).mono ?_); (case side1 => exact z9_); (case side2 => exact HC0.out); rintro e w8 ⟨rfl, hb⟩; refine ⟨_, rfl, ?_⟩; have n0_ := Aside0.mk (below_step z1_ hb); clear HB; have HB := n0_; clear n0_; (try clear hb); (try clear hb2); (try clear hk); (try clear hi)) | ((with_reducible refine gate_callee (f := 48) rfl ?_); refine goesL_ (some 26) rfl rfl Try.func48 (by kernel_rfl) rfl #[.slice A0 l0.length c0, .int .i64 a1] rfl z2_ ?_; (with_reducible refine (tree_split.calls _ _ l0 a1 t141 t142 _ ?side1 ?side2 A7.out).mono ?_); (case side1 => exact z10_); (case side2 => exact HC0.out); rintro e w9 ⟨v143, v145, rfl, ho0, ho1, hb⟩; refine ⟨_, rfl, ?_⟩; have n0_ := Aside0.mk (Kd.R_lower ho0 (below_size z1_)); have n1_ := Aside0.mk (Kd.R_lower ho1 (below_size z1_)); have n2_ := Aside0.mk (below_step z1_ hb); clear HB; have HO144 := n0_; have HO146 := n1_; have HB := n2_; clear n0_ n1_ n2_; (try clear hb); (try clear hb2); (try clear hk); (try clear hi); (try clear ho0); (try clear ho1)))
   go_ret2
   exact ⟨_, by first | rfl | (simp [errW_none, errW_some] <;> rfl) | (simp [*, errW_none, errW_some] <;> rfl), by (with_reducible repeat (first | apply Kd.R_alloc | apply Kd.R_drewN | apply Kd.R_drew)); exact Kd.R_mono HO144.out (fun _ hk => trivial), by repeat (first | (with_reducible first | exact HB.out | apply below_alloc | apply pw_below_drewN | apply below_drew1) | exact HB.out)⟩
 ·rw [if_neg c4] at H
  have c4b0 : (t140 == 0) = false := beq_eq_false_iff_ne.mpr c4
  have c4b1 : (t140 != 0) = true := bne_iff_ne.mpr c4
  simp only [Option.some.injEq, Prod.mk.injEq] at H
  obtain ⟨rfl, rfl⟩ := H
  go_enter Try.func23, Try.ntmps23
  go_wp2_with (first | ((with_reducible refine gate_callee (f := 37) rfl ?_); refine goesL_ (some 13) rfl rfl Try.func37 (by kernel_rfl) rfl #[.slice A0 l0.length c0, .int .i64 a1] rfl z2_ ?_; (with_reducible refine (tree_get.calls _ _ l0 a1 t139 t140 _ ?side1 ?side2 A3.out).mono ?_); (case side1 => exact z9_); (case side2 => exact HC0.out); rintro e w10 ⟨rfl, hb⟩; refine ⟨_, rfl, ?_⟩; have n0_ := Aside0.mk (below_step z1_ hb); clear HB; have HB := n0_; clear n0_; (try clear hb); (try clear hb2); (try clear hk); (try clear hi)))
  go_ret2
  exact ⟨_, by first | rfl | (simp [errW_none, errW_some] <;> rfl) | (simp [*, errW_none, errW_some] <;> rfl), by first | exact Kd.R_nil _ _ _ _ _ | exact Kd.N_nil _ _ _ _ _ | exact Kd.V_nil _ _ _ _ _ | exact Kd.Q_nil _ _ _ _ _ | exact Kd.S_nil _ _ _ _ _, by repeat (first | (with_reducible first | exact HB.out | apply below_alloc | apply pw_below_drewN | apply below_drew1) | exact HB.out)⟩
end Go.Proofs.Ytpafhhgoldenoaa.P
end
section
namespace Go.Proofs.Ytpafhhgoldenoaa.P
open Go.RowKit Go.Proofs.YtpafhhgoldenoaaW.PrintWords Go.Proofs.YtpafhhgoldenoaaW.PrintLast Go.Proofs.YtpafhhgoldenoaaW.PrintMore
attribute [local go_sem] max2_int min2_int max_two min_two max_three min_three max_four min_four
set_option linter.unusedVariables false
set_option linter.unusedSimpArgs false
def formelaw10_example.f  : Option ((List (S24))) := some (([(⟨1, 0, 1, 0, (⟨#[]⟩ : ByteArray)⟩ : S24), (⟨2, 1, 1, 0, (⟨#[]⟩ : ByteArray)⟩ : S24), (⟨3, 2, 2, 0, (⟨#[97]⟩ : ByteArray)⟩ : S24), (⟨4, 1, 2, 0, (⟨#[]⟩ : ByteArray)⟩ : S24)] : List (S24)))
set_option maxHeartbeats 8000000 in
set_option maxRecDepth 100000 in
theorem formelaw10_example.calls  (r : List (S24)) (w : World) (h : formelaw10_example.f  = some r) :
  Calls Try.prog 30 #[] w fun e w' => ∃ v0_ : Value, e = .returned (v0_) ∧ Kd.R k24 24 w' w.heap.size (fun _ => True) v0_ r ∧ Below w.heap.size w w' := by
 have hu24 := Try.underlying24
 have HB := Aside0.mk (Below.refl w.heap.size w)
 have H : (some (([(⟨1, 0, 1, 0, (⟨#[]⟩ : ByteArray)⟩ : S24), (⟨2, 1, 1, 0, (⟨#[]⟩ : ByteArray)⟩ : S24), (⟨3, 2, 2, 0, (⟨#[97]⟩ : ByteArray)⟩ : S24), (⟨4, 1, 2, 0, (⟨#[]⟩ : ByteArray)⟩ : S24)] : List (S24)))) = some r := h
 clear h
 obtain ⟨y147, hy147⟩ : ∃ y_ : List (S24), y_ = (([(⟨1, 0, 1, 0, (⟨#[]⟩ : ByteArray)⟩ : S24), (⟨2, 1, 1, 0, (⟨#[]⟩ : ByteArray)⟩ : S24), (⟨3, 2, 2, 0, (⟨#[97]⟩ : ByteArray)⟩ : S24), (⟨4, 1, 2, 0, (⟨#[]⟩ : ByteArray)⟩ : S24)] : List (S24))) := ⟨_, rfl⟩
 replace H : (some y147) = some r := by first | (rw [hy147]; with_reducible exact H) | (have H2_ := (Option.bind_some _ _).symm.trans H; rw [hy147]; with_reducible exact H2_) | (have H2_ := (Option.bind_some _ _).symm.trans H; with_reducible exact H2_) | with_reducible exact H | (rw [hy147]; exact H) | exact H
 have Ny147 := Aside0.mk hy147
 clear hy147
 obtain rfl := Option.some.inj H
 go_enter Try.func30, Try.ntmps30
 go_wp2_with (first | ((with_reducible refine gate_dst (N := 5) rfl ?_); refine Kd.R_lit k24 _ 24 ?hg (N := 5) ?hd (xs := ([(⟨1, 0, 1, 0, (⟨#[]⟩ : ByteArray)⟩ : S24), (⟨2, 1, 1, 0, (⟨#[]⟩ : ByteArray)⟩ : S24), (⟨3, 2, 2, 0, (⟨#[97]⟩ : ByteArray)⟩ : S24), (⟨4, 1, 2, 0, (⟨#[]⟩ : ByteArray)⟩ : S24)] : List (S24))) (inner := [.int .i64 1, .int .i64 0, .int .i64 1, .int .i64 0, .string (⟨#[]⟩ : ByteArray), .int .i64 2, .int .i64 1, .int .i64 1, .int .i64 0, .string (⟨#[]⟩ : ByteArray), .int .i64 3, .int .i64 2, .int .i64 2, .int .i64 0, .string (⟨#[97]⟩ : ByteArray), .int .i64 4, .int .i64 1, .int .i64 2, .int .i64 0, .string (⟨#[]⟩ : ByteArray)]) (ok := fun _ => True) (okp := fun _ => True) ?hr ?hp (fun _ hk => hk) trivial (Below.refl _ _) (Nat.le_refl _) (by simp) ?_; (case hd => rfl); (case hg => rfl); (case hr => exact z11_); (case hp => exact (Reps.c5 (show Kd.M k24 _ _ _ (⟨1, 0, 1, 0, (⟨#[]⟩ : ByteArray)⟩ : S24) [.int .i64 1, .int .i64 0, .int .i64 1, .int .i64 0, .string (⟨#[]⟩ : ByteArray)] from (k24_mkM _ _ _ (⟨1, 0, 1, 0, (⟨#[]⟩ : ByteArray)⟩ : S24) )) (Reps.c5 (show Kd.M k24 _ _ _ (⟨2, 1, 1, 0, (⟨#[]⟩ : ByteArray)⟩ : S24) [.int .i64 2, .int .i64 1, .int .i64 1, .int .i64 0, .string (⟨#[]⟩ : ByteArray)] from (k24_mkM _ _ _ (⟨2, 1, 1, 0, (⟨#[]⟩ : ByteArray)⟩ : S24) )) (Reps.c5 (show Kd.M k24 _ _ _ (⟨3, 2, 2, 0, (⟨#[97]⟩ : ByteArray)⟩ : S24) [.int .i64 3, .int .i64 2, .int .i64 2, .int .i64 0, .string (⟨#[97]⟩ : ByteArray)] from (k24_mkM _ _ _ (⟨3, 2, 2, 0, (⟨#[97]⟩ : ByteArray)⟩ : S24) )) (Reps.c5 (show Kd.M k24 _ _ _ (⟨4, 1, 2, 0, (⟨#[]⟩ : ByteArray)⟩ : S24) [.int .i64 4, .int .i64 1, .int .i64 2, .int .i64 0, .string (⟨#[]⟩ : ByteArray)] from (k24_mkM _ _ _ (⟨4, 1, 2, 0, (⟨#[]⟩ : ByteArray)⟩ : S24) )) (Reps.none _ _)))))); intro v148 w1 ho2 hb hg_ hnew_; clear hg_ hnew_; (first | rw [← Ny147.out] at ho2 | (simp only [Int.reduceToNat] at ho2; rw [← Ny147.out] at ho2)); have n0_ := Aside0.mk (Kd.R_lower ho2 (below_size z1_)); have n1_ := Aside0.mk (below_step z1_ hb); clear HB; have HO149 := n0_; have HB := n1_; clear n0_ n1_; clear hb ho2))
 go_ret
 exact ⟨_, by first | rfl | (simp [errW_none, errW_some] <;> rfl) | (simp [*, errW_none, errW_some] <;> rfl), by (with_reducible repeat (first | apply Kd.R_alloc | apply Kd.R_drewN | apply Kd.R_drew)); exact HO149.out, by repeat (first | (with_reducible first | exact HB.out | apply below_alloc | apply pw_below_drewN | apply below_drew1) | exact HB.out)⟩
end Go.Proofs.Ytpafhhgoldenoaa.P
end
section
namespace Go.Proofs.Ytpafhhgoldenoaa.P
open Go.RowKit Go.Proofs.YtpafhhgoldenoaaW.PrintWords Go.Proofs.YtpafhhgoldenoaaW.PrintLast Go.Proofs.YtpafhhgoldenoaaW.PrintMore
open Go.Proofs.Ytpafhhgoldenoaa.XM
set_option linter.unusedVariables false
set_option linter.unusedSimpArgs false
attribute [local go_sem] encP
theorem C_one (W : World) (n : S24) : Kd.C k24 (W.alloc (.cells #[.int .i64 n.f0, .int .i64 n.f1, .int .i64 n.f2, .int .i64 n.f3, .string n.f4] 24)) (some ⟨W.heap.size, 0, none⟩) [n].length [n] := by
 have hb := heap_alloc_new W (.cells #[.int .i64 n.f0, .int .i64 n.f1, .int .i64 n.f2, .int .i64 n.f3, .string n.f4] 24)
 refine ⟨rfl, by simp, fun _ => ⟨_, rfl, fun j p hj => ?_⟩⟩
 cases j with
 | zero =>
  obtain rfl : n = p := by simpa using hj
  refine ⟨[.int .i64 n.f0, .int .i64 n.f1, .int .i64 n.f2, .int .i64 n.f3, .string n.f4], rfl, k24_mk _ n, fun i u hu => ?_⟩
  rw [Nat.zero_mul, Nat.zero_add, add_plain]
  have h2 := blk_cell hb i
  rw [h2]
  simpa using hu
 | succ j => simp at hj
def insert_r.T12 : Bool × List (List Nat × List Nat) := (true, [([], []), ([0], [0]), ([], []), ([], []), ([3], [3]), ([2, 4], [2, 4]), ([5], [5]), ([6], [6]), ([1, 7], [1, 7]), ([8], [8]), ([9, 8], [9])])
def insert_r.B12 : List Nat := [0, 1, 0, 0, 8, 28, 60, 124, 255, 511, 1023]
theorem insert_r.tab12 : rtab .any (opsOf Try.f20 12) = insert_r.T12 := by kernel_rfl
theorem insert_r.bits12 : waitsOk insert_r.T12.2 insert_r.B12 = true := by kernel_rfl
set_option maxHeartbeats 8000000 in
set_option maxRecDepth 100000 in
theorem insert_calls (A0 : Option Addr) (c0 : Nat) (l0 : List S24) (n : S24) (b : Int) (r1 : List S24) (r2 : Int) (w : World) (hr0 : Kd.C k24 w A0 l0.length l0) (hc0 : l0.length ≤ c0) (h : insertP l0 n b = some (r1, r2)) :
  Calls Try.prog 20 #[.slice A0 l0.length c0, .agg #[.int .i64 n.f0, .int .i64 n.f1, .int .i64 n.f2, .int .i64 n.f3, .string n.f4], .int .i64 b] w fun e w' => ∃ v0_ : Value, e = .returned (.tuple #[v0_, .int .i64 r2]) ∧ Kd.R k24 24 w' w.heap.size (fun _ => True) v0_ r1 ∧ Below w.heap.size w w' := by
 have hu24 := Try.underlying24
 have hu51 := Try.underlying51
 have HR := Aside0.mk hr0
 have HC0 := Aside0.mk hc0
 have HP := Aside0.mk h
 clear hr0 h
 have HB := Aside0.mk (below_alloc (Below.refl w.heap.size w) (.cells #[.int .i64 n.f0, .int .i64 n.f1, .int .i64 n.f2, .int .i64 n.f3, .string n.f4] 24))
 have HN := Aside0.mk (heap_alloc_new w (.cells #[.int .i64 n.f0, .int .i64 n.f1, .int .i64 n.f2, .int .i64 n.f3, .string n.f4] 24))
 go_enter Try.func20, Try.ntmps20
 go_wp2_with fail
 refine (places_calls A0 c0 l0 _ (Kd.C_alloc HR.out _) hc0).mono ?_
 rintro e w1 ⟨hb, hp⟩
 have HB1 := Aside0.mk (HB.out.trans (hb.mono HB.out.size))
 have HN1 := Aside0.mk ((hb.block w.heap.size (blk_lt HN.out)).trans HN.out)
 clear HB HN hb
 have HB := HB1
 have HN := HN1
 clear HB1 HN1
 obtain ⟨g, hg⟩ : ∃ g, g = w.heap.size := ⟨_, rfl⟩
 have HG := Aside0.mk hg
 simp only [← hg] at HN ⊢
 clear hg
 have y0 : w1.cell? ⟨g, 0, none⟩ = some (.int .i64 n.f0) := blk_cell HN.out 0
 have y1 : w1.cell? ⟨g, 1, none⟩ = some (.int .i64 n.f1) := blk_cell HN.out 1
 have y2 : w1.cell? ⟨g, 2, none⟩ = some (.int .i64 n.f2) := blk_cell HN.out 2
 have y3 : w1.cell? ⟨g, 3, none⟩ = some (.int .i64 n.f3) := blk_cell HN.out 3
 have y4 : w1.cell? ⟨g, 4, none⟩ = some (.string n.f4) := blk_cell HN.out 4
 have hlt : g < w1.heap.size := blk_lt HN.out
 have hne : g ≠ w1.heap.size := Nat.ne_of_lt hlt
 cases hD : placesP l0 with
 | none =>
  rw [hD] at hp
  obtain rfl := hp
  have H2 := HP.out
  unfold insertP at H2
  rw [hD] at H2
  obtain ⟨rfl, rfl⟩ : [] = r1 ∧ (1 : Int) = r2 := by simpa using H2
  clear H2 HP hD
  go_wp2
  go_ret2
  exact ⟨_, rfl, Kd.R_nil _ _ _ _ _, HB.out⟩
 | some D =>
  rw [hD] at hp
  obtain ⟨bm, rfl, hM⟩ := hp
  have HM := Aside0.mk hM
  have HD := Aside0.mk hD
  obtain ⟨_, hl4, _, _, _, hinv⟩ := placesP_some hD
  have HI := Aside0.mk hinv
  have HL := Aside0.mk hl4
  clear hM hD hinv hl4
  by_cases hbz : b = 0
  ·have hbzb : (b != 0) = false := by simpa using hbz
   have Hbz := Aside0.mk hbz
   clear hbz
   have hbz := Hbz.out
   by_cases hf : formedB n = true
   ·have hff : Aside0 (tree_formed.f n.f0 n.f1 n.f2 n.f3 n.f4 = some true) := ⟨by rw [formed_f, hf]⟩
    have Hf := Aside0.mk hf
    clear hf
    by_cases hp0 : n.f1 = 0
    ·have hp0b : (n.f1 == 0) = true := by simpa using hp0
     have H2 := HP.out
     unfold insertP at H2
     rw [HD.out] at H2
     simp [hbz, Hf.out, hp0] at H2
     obtain ⟨rfl, rfl⟩ := H2
     clear hp0 HP
     go_wp2_with (first | (go_at_call 42; (with_reducible refine (tree_formed.calls n.f0 n.f1 n.f2 n.f3 n.f4 true _ hff.out).mono ?_); rintro e w3 ⟨rfl, hb3⟩; have HBn := Aside0.mk (HB.out.trans (hb3.mono HB.out.size)); have HMn := Aside0.mk (HM.out.below hb3); have HNn := Aside0.mk ((hb3.block g (blk_lt HN.out)).trans HN.out); clear HB HM HN y0 y1 y2 y3 y4 hlt hne; have HB := HBn; have HM := HMn; have HN := HNn; clear HBn HMn HNn; have y0 : w3.cell? ⟨g, 0, none⟩ = some (.int .i64 n.f0) := blk_cell HN.out 0; have y1 : w3.cell? ⟨g, 1, none⟩ = some (.int .i64 n.f1) := blk_cell HN.out 1; have y2 : w3.cell? ⟨g, 2, none⟩ = some (.int .i64 n.f2) := blk_cell HN.out 2; have y3 : w3.cell? ⟨g, 3, none⟩ = some (.int .i64 n.f3) := blk_cell HN.out 3; have y4 : w3.cell? ⟨g, 4, none⟩ = some (.string n.f4) := blk_cell HN.out 4; have hlt : g < w3.heap.size := blk_lt HN.out; have hne : g ≠ w3.heap.size := Nat.ne_of_lt hlt; clear hb3))
     go_ret2
     exact ⟨_, rfl, Kd.R_nil _ _ _ _ _, HB.out⟩
    ·have hp0b : (n.f1 == 0) = false := by simpa using hp0
     have Hp0 := Aside0.mk hp0
     clear hp0
     cases hm0 : mlook D n.f0 with
     | some v0 =>
      have hv0 : Aside0 (((mlook D n.f0).map encP).getD (.agg #[.int .i64 0, .int .i64 0]) = .agg #[.int .i64 v0.1, .int .i64 v0.2]) := ⟨by rw [hm0]; rfl⟩
      have hb0 : Aside0 ((mlook D n.f0).isSome = true) := ⟨by rw [hm0]; rfl⟩
      have H2 := HP.out
      unfold insertP at H2
      rw [HD.out] at H2
      simp [hbz, Hf.out, Hp0.out, hm0] at H2
      obtain ⟨rfl, rfl⟩ := H2
      clear hm0 HP
      go_wp2_with (first | (go_at_call 42; (with_reducible refine (tree_formed.calls n.f0 n.f1 n.f2 n.f3 n.f4 true _ hff.out).mono ?_); rintro e w3 ⟨rfl, hb3⟩; have HBn := Aside0.mk (HB.out.trans (hb3.mono HB.out.size)); have HMn := Aside0.mk (HM.out.below hb3); have HNn := Aside0.mk ((hb3.block g (blk_lt HN.out)).trans HN.out); clear HB HM HN y0 y1 y2 y3 y4 hlt hne; have HB := HBn; have HM := HMn; have HN := HNn; clear HBn HMn HNn; have y0 : w3.cell? ⟨g, 0, none⟩ = some (.int .i64 n.f0) := blk_cell HN.out 0; have y1 : w3.cell? ⟨g, 1, none⟩ = some (.int .i64 n.f1) := blk_cell HN.out 1; have y2 : w3.cell? ⟨g, 2, none⟩ = some (.int .i64 n.f2) := blk_cell HN.out 2; have y3 : w3.cell? ⟨g, 3, none⟩ = some (.int .i64 n.f3) := blk_cell HN.out 3; have y4 : w3.cell? ⟨g, 4, none⟩ = some (.string n.f4) := blk_cell HN.out 4; have hlt : g < w3.heap.size := blk_lt HN.out; have hne : g ≠ w3.heap.size := Nat.ne_of_lt hlt; clear hb3) | (at_lookup; refine wpList_lookup_ok _ rfl _ _ 46 rfl 3 51 (KeyOK.int .i64) Try.underlying46 Try.underlying3 (zero51 _) rfl HM.out n.f0 rfl _ hv0.out _ hb0.out ?_))
      go_ret2
      exact ⟨_, rfl, Kd.R_nil _ _ _ _ _, below_alloc HB.out _⟩
     | none =>
      have hv0 : Aside0 (((mlook D n.f0).map encP).getD (.agg #[.int .i64 0, .int .i64 0]) = .agg #[.int .i64 0, .int .i64 0]) := ⟨by rw [hm0]; rfl⟩
      have hb0 : Aside0 ((mlook D n.f0).isSome = false) := ⟨by rw [hm0]; rfl⟩
      have Hm0 := Aside0.mk hm0
      clear hm0
      cases hm1 : mlook D n.f1 with
      | none =>
       have hv1 : Aside0 (((mlook D n.f1).map encP).getD (.agg #[.int .i64 0, .int .i64 0]) = .agg #[.int .i64 0, .int .i64 0]) := ⟨by rw [hm1]; rfl⟩
       have hb1 : Aside0 ((mlook D n.f1).isSome = false) := ⟨by rw [hm1]; rfl⟩
       have H2 := HP.out
       unfold insertP at H2
       rw [HD.out] at H2
       simp [hbz, Hf.out, Hp0.out, Hm0.out, hm1] at H2
       obtain ⟨rfl, rfl⟩ := H2
       clear hm1 HP
       go_wp2_with (first | (go_at_call 42; (with_reducible refine (tree_formed.calls n.f0 n.f1 n.f2 n.f3 n.f4 true _ hff.out).mono ?_); rintro e w3 ⟨rfl, hb3⟩; have HBn := Aside0.mk (HB.out.trans (hb3.mono HB.out.size)); have HMn := Aside0.mk (HM.out.below hb3); have HNn := Aside0.mk ((hb3.block g (blk_lt HN.out)).trans HN.out); clear HB HM HN y0 y1 y2 y3 y4 hlt hne; have HB := HBn; have HM := HMn; have HN := HNn; clear HBn HMn HNn; have y0 : w3.cell? ⟨g, 0, none⟩ = some (.int .i64 n.f0) := blk_cell HN.out 0; have y1 : w3.cell? ⟨g, 1, none⟩ = some (.int .i64 n.f1) := blk_cell HN.out 1; have y2 : w3.cell? ⟨g, 2, none⟩ = some (.int .i64 n.f2) := blk_cell HN.out 2; have y3 : w3.cell? ⟨g, 3, none⟩ = some (.int .i64 n.f3) := blk_cell HN.out 3; have y4 : w3.cell? ⟨g, 4, none⟩ = some (.string n.f4) := blk_cell HN.out 4; have hlt : g < w3.heap.size := blk_lt HN.out; have hne : g ≠ w3.heap.size := Nat.ne_of_lt hlt; clear hb3) | (at_lookup; refine wpList_lookup_ok _ rfl _ _ 46 rfl 3 51 (KeyOK.int .i64) Try.underlying46 Try.underlying3 (zero51 _) rfl HM.out n.f0 rfl _ hv0.out _ hb0.out ?_) | (at_lookup; refine wpList_lookup_ok _ rfl _ _ 46 rfl 3 51 (KeyOK.int .i64) Try.underlying46 Try.underlying3 (zero51 _) rfl (HM.out.alloc _) n.f1 rfl _ hv1.out _ hb1.out ?_))
       go_ret2
       exact ⟨_, rfl, Kd.R_nil _ _ _ _ _, below_alloc (below_alloc HB.out _) _⟩
      | some p =>
       obtain ⟨p1, p2⟩ := p
       have hv1 : Aside0 (((mlook D n.f1).map encP).getD (.agg #[.int .i64 0, .int .i64 0]) = .agg #[.int .i64 p1, .int .i64 p2]) := ⟨by rw [hm1]; rfl⟩
       have hb1 : Aside0 ((mlook D n.f1).isSome = true) := ⟨by rw [hm1]; rfl⟩
       have hpI := HI.out _ _ hm1
       simp only at hpI
       have Hm1 := Aside0.mk hm1
       clear hm1
       have hp1a : 0 ≤ p1 := hpI.1
       have hp1b : p1 < (l0.length : Int) := hpI.2.1
       have HP1 := Aside0.mk hpI
       clear hpI
       have hp1c := eq_true hp1a
       have hp1d := eq_true hp1b
       have hp1e : decide (0 ≤ p1) = true := decide_eq_true hp1a
       have hp1f : decide (p1 < (l0.length : Int)) = true := decide_eq_true hp1b
       go_wp2_with (first | (go_at_call 42; (with_reducible refine (tree_formed.calls n.f0 n.f1 n.f2 n.f3 n.f4 true _ hff.out).mono ?_); rintro e w3 ⟨rfl, hb3⟩; have HBn := Aside0.mk (HB.out.trans (hb3.mono HB.out.size)); have HMn := Aside0.mk (HM.out.below hb3); have HNn := Aside0.mk ((hb3.block g (blk_lt HN.out)).trans HN.out); clear HB HM HN y0 y1 y2 y3 y4 hlt hne; have HB := HBn; have HM := HMn; have HN := HNn; clear HBn HMn HNn; have y0 : w3.cell? ⟨g, 0, none⟩ = some (.int .i64 n.f0) := blk_cell HN.out 0; have y1 : w3.cell? ⟨g, 1, none⟩ = some (.int .i64 n.f1) := blk_cell HN.out 1; have y2 : w3.cell? ⟨g, 2, none⟩ = some (.int .i64 n.f2) := blk_cell HN.out 2; have y3 : w3.cell? ⟨g, 3, none⟩ = some (.int .i64 n.f3) := blk_cell HN.out 3; have y4 : w3.cell? ⟨g, 4, none⟩ = some (.string n.f4) := blk_cell HN.out 4; have hlt : g < w3.heap.size := blk_lt HN.out; have hne : g ≠ w3.heap.size := Nat.ne_of_lt hlt; clear hb3) | (at_lookup; refine wpList_lookup_ok _ rfl _ _ 46 rfl 3 51 (KeyOK.int .i64) Try.underlying46 Try.underlying3 (zero51 _) rfl HM.out n.f0 rfl _ hv0.out _ hb0.out ?_) | (at_lookup; refine wpList_lookup_ok _ rfl _ _ 46 rfl 3 51 (KeyOK.int .i64) Try.underlying46 Try.underlying3 (zero51 _) rfl (HM.out.alloc _) n.f1 rfl _ hv1.out _ hb1.out ?_))
       have HBn := Aside0.mk (below_alloc (below_alloc HB.out (.cells #[.int .i64 0, .int .i64 0] 51)) (.cells #[.int .i64 p1, .int .i64 p2] 51))
       have HMn := Aside0.mk ((HM.out.alloc (.cells #[.int .i64 0, .int .i64 0] 51)).alloc (.cells #[.int .i64 p1, .int .i64 p2] 51))
       have HNn := Aside0.mk (blk_alloc (blk_alloc HN.out (.cells #[.int .i64 0, .int .i64 0] 51)) (.cells #[.int .i64 p1, .int .i64 p2] 51))
       have HTn := Aside0.mk (show ((w3.alloc (.cells #[.int .i64 0, .int .i64 0] 51)).alloc (.cells #[.int .i64 p1, .int .i64 p2] 51)).heap[w3.heap.size + 1]? = some (.cells #[.int .i64 p1, .int .i64 p2] 51 (0, 0)) from by have h_ := heap_alloc_new (w3.alloc (.cells #[.int .i64 0, .int .i64 0] 51)) (.cells #[.int .i64 p1, .int .i64 p2] 51); simpa using h_)
       clear HB HM HN y0 y1 y2 y3 y4 hlt hne
       generalize (w3.alloc (.cells #[.int .i64 0, .int .i64 0] 51)).alloc (.cells #[.int .i64 p1, .int .i64 p2] 51) = W at HBn HMn HNn HTn ⊢
       generalize w3.heap.size + 1 = t at HTn ⊢
       have HB := HBn
       have HM := HMn
       have HN := HNn
       have HT := HTn
       clear HBn HMn HNn HTn
       have y0 : W.cell? ⟨g, 0, none⟩ = some (.int .i64 n.f0) := blk_cell HN.out 0
       have y1 : W.cell? ⟨g, 1, none⟩ = some (.int .i64 n.f1) := blk_cell HN.out 1
       have y2 : W.cell? ⟨g, 2, none⟩ = some (.int .i64 n.f2) := blk_cell HN.out 2
       have y3 : W.cell? ⟨g, 3, none⟩ = some (.int .i64 n.f3) := blk_cell HN.out 3
       have y4 : W.cell? ⟨g, 4, none⟩ = some (.string n.f4) := blk_cell HN.out 4
       have hlt : g < W.heap.size := blk_lt HN.out
       have hne : g ≠ W.heap.size := Nat.ne_of_lt hlt
       have zt0 : W.cell? ⟨t, 0, none⟩ = some (.int .i64 p1) := blk_cell HT.out 0
       have zt1 : W.cell? ⟨t, 1, none⟩ = some (.int .i64 p2) := blk_cell HT.out 1
       have htlt := blk_lt HT.out
       obtain ⟨ad, e2, _, _, zk, _, _⟩ := at_T24 (Kd.C_below HR.out HB.out) p1 hp1a hp1b
       subst e2
       obtain ⟨kk, hkk⟩ : ∃ kk, kk = (rd_T24 l0 p1).f2 := ⟨_, rfl⟩
       rw [← hkk] at zk
       have Hkk := Aside0.mk hkk
       clear hkk
       by_cases hs : standsB n.f2 kk = true
       ·have hst : Aside0 (tree_stands.f n.f2 kk = some true) := ⟨by rw [stands_f, hs]⟩
        have hsf : Aside0 (standsB n.f2 (rd_T24 l0 p1).f2 = true) := ⟨by rw [← Hkk.out]; exact hs⟩
        clear hs
        refine start_ (n := 11) (S := fun w' => w'.cell? ⟨g, 2, none⟩ = some (.int .i64 n.f2) ∧ w'.cell? ⟨t, 0, none⟩ = some (.int .i64 p1) ∧ w'.cell? ⟨(ad.add (p1.toNat * 5)).block, (ad.add (p1.toNat * 5)).off + 2, none⟩ = some (.int .i64 kk)) (ds := []) #[false, false, false, false, false, false, false, false, false, false, false] (by kernel_rfl) rfl rfl ⟨(((below_drew1 (Below.refl W.heap.size W)).cell (p := ⟨g, 2, none⟩) hlt).trans y2), (((below_drew1 (Below.refl W.heap.size W)).cell (p := ⟨t, 0, none⟩) htlt).trans zt0), (((below_drew1 (Below.refl W.heap.size W)).cell (p := ⟨(ad.add (p1.toNat * 5)).block, (ad.add (p1.toNat * 5)).off + 2, none⟩) (World.block_lt_of_cell? W _ zk)).trans zk)⟩ (fun hHeld => ?_)
        refine with_tabW insert_r.tab12 insert_r.bits12 (fun HT_ HW_ => ?_)
        refine pz_ 0 (some 71) ?_
        refine pz_ 2 (some 73) ?_
        refine pz_ 3 (some 74) ?_
        refine tz_ 1 (some 72) hHeld ?_
        refine tz_ 4 (some 75) hHeld ?_
        refine pz_ 5 (some 76) ?_
        refine pz_ 6 (some 77) ?_
        refine tz_ 7 (some 78) hHeld ?_
        refine oz_ 8 (some 79) (fun K hK => ?_)
        refine goes_ Try.func44 (by kernel_rfl) rfl #[.int .i64 n.f2, .int .i64 kk] (by rfl) rfl rfl z26_ ?_
        with_reducible refine (tree_stands.calls n.f2 kk true _ hst.out).mono ?_
        rintro e w7 ⟨rfl, hds⟩
        refine ⟨_, rfl, ?_⟩
        have hb7 : Below W.heap.size W w7 := (below_drew1 (Below.refl _ W)).trans hds.below
        refine hK.out _ _ ⟨((hb7.cell (p := ⟨g, 2, none⟩) hlt).trans y2), ((hb7.cell (p := ⟨t, 0, none⟩) htlt).trans zt0), ((hb7.cell (p := ⟨(ad.add (p1.toNat * 5)).block, (ad.add (p1.toNat * 5)).off + 2, none⟩) (World.block_lt_of_cell? W _ zk)).trans zk)⟩ (fun hHeld => ?_)
        clear hK K
        refine norm_ (a' := ?_) ?_ ?_
        rotate_left
        ·show Act.put _ (some 79) _ = _
         simp only [Act.put, List.setIfInBounds_toArray, List.set_cons_zero, List.set_cons_succ, i64_w, i32_w]
         rfl
        refine pz_ 9 (some 80) ?_
        refine pz_ 10 (some 70) ?_
        refine done_ (done_of HT_.out (by kernel_rfl)) ?_

        have HBn := Aside0.mk (HB.out.trans (hb7.mono HB.out.size))
        have HMn := Aside0.mk (HM.out.below hb7)
        have HNn := Aside0.mk ((hb7.block g (blk_lt HN.out)).trans HN.out)
        have HTn := Aside0.mk ((hb7.block t (blk_lt HT.out)).trans HT.out)
        clear HB HM HN HT y0 y1 y2 y3 y4 hlt hne
        have HB := HBn
        have HM := HMn
        have HN := HNn
        have HT := HTn
        clear HBn HMn HNn HTn
        have y0 : w7.cell? ⟨g, 0, none⟩ = some (.int .i64 n.f0) := blk_cell HN.out 0
        have y1 : w7.cell? ⟨g, 1, none⟩ = some (.int .i64 n.f1) := blk_cell HN.out 1
        have y2 : w7.cell? ⟨g, 2, none⟩ = some (.int .i64 n.f2) := blk_cell HN.out 2
        have y3 : w7.cell? ⟨g, 3, none⟩ = some (.int .i64 n.f3) := blk_cell HN.out 3
        have y4 : w7.cell? ⟨g, 4, none⟩ = some (.string n.f4) := blk_cell HN.out 4
        have hlt : g < w7.heap.size := blk_lt HN.out
        have hne : g ≠ w7.heap.size := Nat.ne_of_lt hlt
        have zt3 : w7.cell? ⟨t, 1, none⟩ = some (.int .i64 p2) := blk_cell HT.out 1
        clear zt0 zt1 zk htlt hb7
        by_cases h4 : l0.length = 4000
        ·have h4b : ((l0.length : Int) == 4000) = true := by simp; omega
         have H2 := HP.out
         unfold insertP at H2
         rw [HD.out] at H2
         simp [hbz, Hf.out, Hp0.out, Hm0.out, Hm1.out, hsf.out, h4] at H2
         obtain ⟨rfl, rfl⟩ := H2
         clear h4 HP
         go_wp2
         go_ret2
         exact ⟨_, rfl, Kd.R_nil _ _ _ _ _, HB.out⟩
        ·have h4b : ((l0.length : Int) == 4000) = false := by simp; omega
         by_cases h30 : p2 = 30
         ·have h30b : (p2 == 30) = true := by simpa using h30
          have H2 := HP.out
          unfold insertP at H2
          rw [HD.out] at H2
          simp [hbz, Hf.out, Hp0.out, Hm0.out, Hm1.out, hsf.out, h4, h30] at H2
          obtain ⟨rfl, rfl⟩ := H2
          clear h4 h30 HP
          go_wp2
          go_ret2
          exact ⟨_, rfl, Kd.R_nil _ _ _ _ _, HB.out⟩
         ·have h30b : (p2 == 30) = false := by simpa using h30
          have H2 := HP.out
          unfold insertP at H2
          rw [HD.out] at H2
          simp [hbz, Hf.out, Hp0.out, Hm0.out, Hm1.out, hsf.out, h4, h30] at H2
          obtain ⟨q, hput, rfl, rfl⟩ := H2
          have HPut := Aside0.mk hput
          clear h4 h30 HP hput
          go_wp2_with (first | (go_at_call 45; (refine (put_calls _ c0 l0 (some ⟨w7.heap.size, 0, none⟩) 1 [n] _ _ _ (Kd.C_alloc (Kd.C_below HR.out HB.out) _) HC0.out (C_one w7 n) (Nat.le_refl _) (by have := HL.out; simp <;> omega) HPut.out).mono ?_); rintro e w8 ⟨v8, rfl, hR8, hb8⟩))
          go_ret2
          exact ⟨_, rfl, Kd.R_lower hR8 (by have := HB.out.size; simp; omega), (below_alloc HB.out _).trans (hb8.mono (by have := HB.out.size; simp; omega))⟩
       ·have hst : Aside0 (tree_stands.f n.f2 kk = some false) := ⟨by rw [stands_f]; simpa using hs⟩
        have hsf : Aside0 (standsB n.f2 (rd_T24 l0 p1).f2 = false) := ⟨by rw [← Hkk.out]; simpa using hs⟩
        clear hs
        have H2 := HP.out
        unfold insertP at H2
        rw [HD.out] at H2
        simp [hbz, Hf.out, Hp0.out, Hm0.out, Hm1.out, hsf.out] at H2
        obtain ⟨rfl, rfl⟩ := H2
        clear HP
        refine start_ (n := 11) (S := fun w' => w'.cell? ⟨g, 2, none⟩ = some (.int .i64 n.f2) ∧ w'.cell? ⟨t, 0, none⟩ = some (.int .i64 p1) ∧ w'.cell? ⟨(ad.add (p1.toNat * 5)).block, (ad.add (p1.toNat * 5)).off + 2, none⟩ = some (.int .i64 kk)) (ds := []) #[false, false, false, false, false, false, false, false, false, false, false] (by kernel_rfl) rfl rfl ⟨(((below_drew1 (Below.refl W.heap.size W)).cell (p := ⟨g, 2, none⟩) hlt).trans y2), (((below_drew1 (Below.refl W.heap.size W)).cell (p := ⟨t, 0, none⟩) htlt).trans zt0), (((below_drew1 (Below.refl W.heap.size W)).cell (p := ⟨(ad.add (p1.toNat * 5)).block, (ad.add (p1.toNat * 5)).off + 2, none⟩) (World.block_lt_of_cell? W _ zk)).trans zk)⟩ (fun hHeld => ?_)
        refine with_tabW insert_r.tab12 insert_r.bits12 (fun HT_ HW_ => ?_)
        refine pz_ 0 (some 71) ?_
        refine pz_ 2 (some 73) ?_
        refine pz_ 3 (some 74) ?_
        refine tz_ 1 (some 72) hHeld ?_
        refine tz_ 4 (some 75) hHeld ?_
        refine pz_ 5 (some 76) ?_
        refine pz_ 6 (some 77) ?_
        refine tz_ 7 (some 78) hHeld ?_
        refine oz_ 8 (some 79) (fun K hK => ?_)
        refine goes_ Try.func44 (by kernel_rfl) rfl #[.int .i64 n.f2, .int .i64 kk] (by rfl) rfl rfl z26_ ?_
        with_reducible refine (tree_stands.calls n.f2 kk false _ hst.out).mono ?_
        rintro e w7 ⟨rfl, hds⟩
        refine ⟨_, rfl, ?_⟩
        have hb7 : Below W.heap.size W w7 := (below_drew1 (Below.refl _ W)).trans hds.below
        refine hK.out _ _ ⟨((hb7.cell (p := ⟨g, 2, none⟩) hlt).trans y2), ((hb7.cell (p := ⟨t, 0, none⟩) htlt).trans zt0), ((hb7.cell (p := ⟨(ad.add (p1.toNat * 5)).block, (ad.add (p1.toNat * 5)).off + 2, none⟩) (World.block_lt_of_cell? W _ zk)).trans zk)⟩ (fun hHeld => ?_)
        clear hK K
        refine norm_ (a' := ?_) ?_ ?_
        rotate_left
        ·show Act.put _ (some 79) _ = _
         simp only [Act.put, List.setIfInBounds_toArray, List.set_cons_zero, List.set_cons_succ, i64_w, i32_w]
         rfl
        refine pz_ 9 (some 80) ?_
        refine pz_ 10 (some 70) ?_
        refine done_ (done_of HT_.out (by kernel_rfl)) ?_

        have HBn := Aside0.mk (HB.out.trans (hb7.mono HB.out.size))
        have HMn := Aside0.mk (HM.out.below hb7)
        have HNn := Aside0.mk ((hb7.block g (blk_lt HN.out)).trans HN.out)
        have HTn := Aside0.mk ((hb7.block t (blk_lt HT.out)).trans HT.out)
        clear HB HM HN HT y0 y1 y2 y3 y4 hlt hne
        have HB := HBn
        have HM := HMn
        have HN := HNn
        have HT := HTn
        clear HBn HMn HNn HTn
        have y0 : w7.cell? ⟨g, 0, none⟩ = some (.int .i64 n.f0) := blk_cell HN.out 0
        have y1 : w7.cell? ⟨g, 1, none⟩ = some (.int .i64 n.f1) := blk_cell HN.out 1
        have y2 : w7.cell? ⟨g, 2, none⟩ = some (.int .i64 n.f2) := blk_cell HN.out 2
        have y3 : w7.cell? ⟨g, 3, none⟩ = some (.int .i64 n.f3) := blk_cell HN.out 3
        have y4 : w7.cell? ⟨g, 4, none⟩ = some (.string n.f4) := blk_cell HN.out 4
        have hlt : g < w7.heap.size := blk_lt HN.out
        have hne : g ≠ w7.heap.size := Nat.ne_of_lt hlt
        clear zt0 zt1 zk htlt hb7
        go_wp2
        go_ret2
        exact ⟨_, rfl, Kd.R_nil _ _ _ _ _, HB.out⟩
   ·have hff : Aside0 (tree_formed.f n.f0 n.f1 n.f2 n.f3 n.f4 = some false) := ⟨by rw [formed_f]; simpa using hf⟩
    have H2 := HP.out
    unfold insertP at H2
    rw [HD.out] at H2
    simp [hbz, hf] at H2
    obtain ⟨rfl, rfl⟩ := H2
    clear hf HP
    go_wp2_with (first | (go_at_call 42; (with_reducible refine (tree_formed.calls n.f0 n.f1 n.f2 n.f3 n.f4 false _ hff.out).mono ?_); rintro e w3 ⟨rfl, hb3⟩; have HBn := Aside0.mk (HB.out.trans (hb3.mono HB.out.size)); have HMn := Aside0.mk (HM.out.below hb3); have HNn := Aside0.mk ((hb3.block g (blk_lt HN.out)).trans HN.out); clear HB HM HN y0 y1 y2 y3 y4 hlt hne; have HB := HBn; have HM := HMn; have HN := HNn; clear HBn HMn HNn; have y0 : w3.cell? ⟨g, 0, none⟩ = some (.int .i64 n.f0) := blk_cell HN.out 0; have y1 : w3.cell? ⟨g, 1, none⟩ = some (.int .i64 n.f1) := blk_cell HN.out 1; have y2 : w3.cell? ⟨g, 2, none⟩ = some (.int .i64 n.f2) := blk_cell HN.out 2; have y3 : w3.cell? ⟨g, 3, none⟩ = some (.int .i64 n.f3) := blk_cell HN.out 3; have y4 : w3.cell? ⟨g, 4, none⟩ = some (.string n.f4) := blk_cell HN.out 4; have hlt : g < w3.heap.size := blk_lt HN.out; have hne : g ≠ w3.heap.size := Nat.ne_of_lt hlt; clear hb3))
    go_ret2
    exact ⟨_, rfl, Kd.R_nil _ _ _ _ _, HB.out⟩
  ·have hbzb : (b != 0) = true := by simpa using hbz
   by_cases hidb : idB b = true
   ·have hid : Aside0 (tree_isID.f b = some true) := ⟨by rw [idB_f, hidb]⟩
    by_cases hf : formedB n = true
    ·have hff : Aside0 (tree_formed.f n.f0 n.f1 n.f2 n.f3 n.f4 = some true) := ⟨by rw [formed_f, hf]⟩
     have Hf := Aside0.mk hf
     clear hf
     by_cases hp0 : n.f1 = 0
     ·have hp0b : (n.f1 == 0) = true := by simpa using hp0
      have H2 := HP.out
      unfold insertP at H2
      rw [HD.out] at H2
      simp [hbz, hidb, Hf.out, hp0] at H2
      obtain ⟨rfl, rfl⟩ := H2
      clear hp0 HP
      go_wp2_with (first | (go_at_call 32; (with_reducible refine (tree_isID.calls b true _ hid.out).mono ?_); rintro e w2 ⟨rfl, hd⟩; have HBn := Aside0.mk (HB.out.trans (hd.below.mono HB.out.size)); have HMn := Aside0.mk (HM.out.below hd.below); have HNn := Aside0.mk ((hd.below.block g (blk_lt HN.out)).trans HN.out); clear HB HM HN y0 y1 y2 y3 y4 hlt hne; have HB := HBn; have HM := HMn; have HN := HNn; clear HBn HMn HNn; have y0 : w2.cell? ⟨g, 0, none⟩ = some (.int .i64 n.f0) := blk_cell HN.out 0; have y1 : w2.cell? ⟨g, 1, none⟩ = some (.int .i64 n.f1) := blk_cell HN.out 1; have y2 : w2.cell? ⟨g, 2, none⟩ = some (.int .i64 n.f2) := blk_cell HN.out 2; have y3 : w2.cell? ⟨g, 3, none⟩ = some (.int .i64 n.f3) := blk_cell HN.out 3; have y4 : w2.cell? ⟨g, 4, none⟩ = some (.string n.f4) := blk_cell HN.out 4; have hlt : g < w2.heap.size := blk_lt HN.out; have hne : g ≠ w2.heap.size := Nat.ne_of_lt hlt; clear hd) | (go_at_call 42; (with_reducible refine (tree_formed.calls n.f0 n.f1 n.f2 n.f3 n.f4 true _ hff.out).mono ?_); rintro e w3 ⟨rfl, hb3⟩; have HBn := Aside0.mk (HB.out.trans (hb3.mono HB.out.size)); have HMn := Aside0.mk (HM.out.below hb3); have HNn := Aside0.mk ((hb3.block g (blk_lt HN.out)).trans HN.out); clear HB HM HN y0 y1 y2 y3 y4 hlt hne; have HB := HBn; have HM := HMn; have HN := HNn; clear HBn HMn HNn; have y0 : w3.cell? ⟨g, 0, none⟩ = some (.int .i64 n.f0) := blk_cell HN.out 0; have y1 : w3.cell? ⟨g, 1, none⟩ = some (.int .i64 n.f1) := blk_cell HN.out 1; have y2 : w3.cell? ⟨g, 2, none⟩ = some (.int .i64 n.f2) := blk_cell HN.out 2; have y3 : w3.cell? ⟨g, 3, none⟩ = some (.int .i64 n.f3) := blk_cell HN.out 3; have y4 : w3.cell? ⟨g, 4, none⟩ = some (.string n.f4) := blk_cell HN.out 4; have hlt : g < w3.heap.size := blk_lt HN.out; have hne : g ≠ w3.heap.size := Nat.ne_of_lt hlt; clear hb3))
      go_ret2
      exact ⟨_, rfl, Kd.R_nil _ _ _ _ _, HB.out⟩
     ·have hp0b : (n.f1 == 0) = false := by simpa using hp0
      have Hp0 := Aside0.mk hp0
      clear hp0
      cases hm0 : mlook D n.f0 with
      | some v0 =>
       have hv0 : Aside0 (((mlook D n.f0).map encP).getD (.agg #[.int .i64 0, .int .i64 0]) = .agg #[.int .i64 v0.1, .int .i64 v0.2]) := ⟨by rw [hm0]; rfl⟩
       have hb0 : Aside0 ((mlook D n.f0).isSome = true) := ⟨by rw [hm0]; rfl⟩
       have H2 := HP.out
       unfold insertP at H2
       rw [HD.out] at H2
       simp [hbz, hidb, Hf.out, Hp0.out, hm0] at H2
       obtain ⟨rfl, rfl⟩ := H2
       clear hm0 HP
       go_wp2_with (first | (go_at_call 32; (with_reducible refine (tree_isID.calls b true _ hid.out).mono ?_); rintro e w2 ⟨rfl, hd⟩; have HBn := Aside0.mk (HB.out.trans (hd.below.mono HB.out.size)); have HMn := Aside0.mk (HM.out.below hd.below); have HNn := Aside0.mk ((hd.below.block g (blk_lt HN.out)).trans HN.out); clear HB HM HN y0 y1 y2 y3 y4 hlt hne; have HB := HBn; have HM := HMn; have HN := HNn; clear HBn HMn HNn; have y0 : w2.cell? ⟨g, 0, none⟩ = some (.int .i64 n.f0) := blk_cell HN.out 0; have y1 : w2.cell? ⟨g, 1, none⟩ = some (.int .i64 n.f1) := blk_cell HN.out 1; have y2 : w2.cell? ⟨g, 2, none⟩ = some (.int .i64 n.f2) := blk_cell HN.out 2; have y3 : w2.cell? ⟨g, 3, none⟩ = some (.int .i64 n.f3) := blk_cell HN.out 3; have y4 : w2.cell? ⟨g, 4, none⟩ = some (.string n.f4) := blk_cell HN.out 4; have hlt : g < w2.heap.size := blk_lt HN.out; have hne : g ≠ w2.heap.size := Nat.ne_of_lt hlt; clear hd) | (go_at_call 42; (with_reducible refine (tree_formed.calls n.f0 n.f1 n.f2 n.f3 n.f4 true _ hff.out).mono ?_); rintro e w3 ⟨rfl, hb3⟩; have HBn := Aside0.mk (HB.out.trans (hb3.mono HB.out.size)); have HMn := Aside0.mk (HM.out.below hb3); have HNn := Aside0.mk ((hb3.block g (blk_lt HN.out)).trans HN.out); clear HB HM HN y0 y1 y2 y3 y4 hlt hne; have HB := HBn; have HM := HMn; have HN := HNn; clear HBn HMn HNn; have y0 : w3.cell? ⟨g, 0, none⟩ = some (.int .i64 n.f0) := blk_cell HN.out 0; have y1 : w3.cell? ⟨g, 1, none⟩ = some (.int .i64 n.f1) := blk_cell HN.out 1; have y2 : w3.cell? ⟨g, 2, none⟩ = some (.int .i64 n.f2) := blk_cell HN.out 2; have y3 : w3.cell? ⟨g, 3, none⟩ = some (.int .i64 n.f3) := blk_cell HN.out 3; have y4 : w3.cell? ⟨g, 4, none⟩ = some (.string n.f4) := blk_cell HN.out 4; have hlt : g < w3.heap.size := blk_lt HN.out; have hne : g ≠ w3.heap.size := Nat.ne_of_lt hlt; clear hb3) | (at_lookup; refine wpList_lookup_ok _ rfl _ _ 46 rfl 3 51 (KeyOK.int .i64) Try.underlying46 Try.underlying3 (zero51 _) rfl HM.out n.f0 rfl _ hv0.out _ hb0.out ?_))
       go_ret2
       exact ⟨_, rfl, Kd.R_nil _ _ _ _ _, below_alloc HB.out _⟩
      | none =>
       have hv0 : Aside0 (((mlook D n.f0).map encP).getD (.agg #[.int .i64 0, .int .i64 0]) = .agg #[.int .i64 0, .int .i64 0]) := ⟨by rw [hm0]; rfl⟩
       have hb0 : Aside0 ((mlook D n.f0).isSome = false) := ⟨by rw [hm0]; rfl⟩
       have Hm0 := Aside0.mk hm0
       clear hm0
       cases hm1 : mlook D n.f1 with
       | none =>
        have hv1 : Aside0 (((mlook D n.f1).map encP).getD (.agg #[.int .i64 0, .int .i64 0]) = .agg #[.int .i64 0, .int .i64 0]) := ⟨by rw [hm1]; rfl⟩
        have hb1 : Aside0 ((mlook D n.f1).isSome = false) := ⟨by rw [hm1]; rfl⟩
        have H2 := HP.out
        unfold insertP at H2
        rw [HD.out] at H2
        simp [hbz, hidb, Hf.out, Hp0.out, Hm0.out, hm1] at H2
        obtain ⟨rfl, rfl⟩ := H2
        clear hm1 HP
        go_wp2_with (first | (go_at_call 32; (with_reducible refine (tree_isID.calls b true _ hid.out).mono ?_); rintro e w2 ⟨rfl, hd⟩; have HBn := Aside0.mk (HB.out.trans (hd.below.mono HB.out.size)); have HMn := Aside0.mk (HM.out.below hd.below); have HNn := Aside0.mk ((hd.below.block g (blk_lt HN.out)).trans HN.out); clear HB HM HN y0 y1 y2 y3 y4 hlt hne; have HB := HBn; have HM := HMn; have HN := HNn; clear HBn HMn HNn; have y0 : w2.cell? ⟨g, 0, none⟩ = some (.int .i64 n.f0) := blk_cell HN.out 0; have y1 : w2.cell? ⟨g, 1, none⟩ = some (.int .i64 n.f1) := blk_cell HN.out 1; have y2 : w2.cell? ⟨g, 2, none⟩ = some (.int .i64 n.f2) := blk_cell HN.out 2; have y3 : w2.cell? ⟨g, 3, none⟩ = some (.int .i64 n.f3) := blk_cell HN.out 3; have y4 : w2.cell? ⟨g, 4, none⟩ = some (.string n.f4) := blk_cell HN.out 4; have hlt : g < w2.heap.size := blk_lt HN.out; have hne : g ≠ w2.heap.size := Nat.ne_of_lt hlt; clear hd) | (go_at_call 42; (with_reducible refine (tree_formed.calls n.f0 n.f1 n.f2 n.f3 n.f4 true _ hff.out).mono ?_); rintro e w3 ⟨rfl, hb3⟩; have HBn := Aside0.mk (HB.out.trans (hb3.mono HB.out.size)); have HMn := Aside0.mk (HM.out.below hb3); have HNn := Aside0.mk ((hb3.block g (blk_lt HN.out)).trans HN.out); clear HB HM HN y0 y1 y2 y3 y4 hlt hne; have HB := HBn; have HM := HMn; have HN := HNn; clear HBn HMn HNn; have y0 : w3.cell? ⟨g, 0, none⟩ = some (.int .i64 n.f0) := blk_cell HN.out 0; have y1 : w3.cell? ⟨g, 1, none⟩ = some (.int .i64 n.f1) := blk_cell HN.out 1; have y2 : w3.cell? ⟨g, 2, none⟩ = some (.int .i64 n.f2) := blk_cell HN.out 2; have y3 : w3.cell? ⟨g, 3, none⟩ = some (.int .i64 n.f3) := blk_cell HN.out 3; have y4 : w3.cell? ⟨g, 4, none⟩ = some (.string n.f4) := blk_cell HN.out 4; have hlt : g < w3.heap.size := blk_lt HN.out; have hne : g ≠ w3.heap.size := Nat.ne_of_lt hlt; clear hb3) | (at_lookup; refine wpList_lookup_ok _ rfl _ _ 46 rfl 3 51 (KeyOK.int .i64) Try.underlying46 Try.underlying3 (zero51 _) rfl HM.out n.f0 rfl _ hv0.out _ hb0.out ?_) | (at_lookup; refine wpList_lookup_ok _ rfl _ _ 46 rfl 3 51 (KeyOK.int .i64) Try.underlying46 Try.underlying3 (zero51 _) rfl (HM.out.alloc _) n.f1 rfl _ hv1.out _ hb1.out ?_))
        go_ret2
        exact ⟨_, rfl, Kd.R_nil _ _ _ _ _, below_alloc (below_alloc HB.out _) _⟩
       | some p =>
        obtain ⟨p1, p2⟩ := p
        have hv1 : Aside0 (((mlook D n.f1).map encP).getD (.agg #[.int .i64 0, .int .i64 0]) = .agg #[.int .i64 p1, .int .i64 p2]) := ⟨by rw [hm1]; rfl⟩
        have hb1 : Aside0 ((mlook D n.f1).isSome = true) := ⟨by rw [hm1]; rfl⟩
        have hpI := HI.out _ _ hm1
        simp only at hpI
        have Hm1 := Aside0.mk hm1
        clear hm1
        have hp1a : 0 ≤ p1 := hpI.1
        have hp1b : p1 < (l0.length : Int) := hpI.2.1
        have HP1 := Aside0.mk hpI
        clear hpI
        have hp1c := eq_true hp1a
        have hp1d := eq_true hp1b
        have hp1e : decide (0 ≤ p1) = true := decide_eq_true hp1a
        have hp1f : decide (p1 < (l0.length : Int)) = true := decide_eq_true hp1b
        by_cases hk : b ∈ kidsL l0 n.f1
        ·have hin : Aside0 (slices_Contains_int_int.f 4001 (kidsL l0 n.f1) b = some true) := ⟨by rw [contains_f _ _ (Nat.le_trans (kidsL_len _ _) HL.out)]; simpa using hk⟩
         have Hk := Aside0.mk hk
         clear hk
         go_wp2_with (first | (go_at_call 32; (with_reducible refine (tree_isID.calls b true _ hid.out).mono ?_); rintro e w2 ⟨rfl, hd⟩; have HBn := Aside0.mk (HB.out.trans (hd.below.mono HB.out.size)); have HMn := Aside0.mk (HM.out.below hd.below); have HNn := Aside0.mk ((hd.below.block g (blk_lt HN.out)).trans HN.out); clear HB HM HN y0 y1 y2 y3 y4 hlt hne; have HB := HBn; have HM := HMn; have HN := HNn; clear HBn HMn HNn; have y0 : w2.cell? ⟨g, 0, none⟩ = some (.int .i64 n.f0) := blk_cell HN.out 0; have y1 : w2.cell? ⟨g, 1, none⟩ = some (.int .i64 n.f1) := blk_cell HN.out 1; have y2 : w2.cell? ⟨g, 2, none⟩ = some (.int .i64 n.f2) := blk_cell HN.out 2; have y3 : w2.cell? ⟨g, 3, none⟩ = some (.int .i64 n.f3) := blk_cell HN.out 3; have y4 : w2.cell? ⟨g, 4, none⟩ = some (.string n.f4) := blk_cell HN.out 4; have hlt : g < w2.heap.size := blk_lt HN.out; have hne : g ≠ w2.heap.size := Nat.ne_of_lt hlt; clear hd) | (go_at_call 42; (with_reducible refine (tree_formed.calls n.f0 n.f1 n.f2 n.f3 n.f4 true _ hff.out).mono ?_); rintro e w3 ⟨rfl, hb3⟩; have HBn := Aside0.mk (HB.out.trans (hb3.mono HB.out.size)); have HMn := Aside0.mk (HM.out.below hb3); have HNn := Aside0.mk ((hb3.block g (blk_lt HN.out)).trans HN.out); clear HB HM HN y0 y1 y2 y3 y4 hlt hne; have HB := HBn; have HM := HMn; have HN := HNn; clear HBn HMn HNn; have y0 : w3.cell? ⟨g, 0, none⟩ = some (.int .i64 n.f0) := blk_cell HN.out 0; have y1 : w3.cell? ⟨g, 1, none⟩ = some (.int .i64 n.f1) := blk_cell HN.out 1; have y2 : w3.cell? ⟨g, 2, none⟩ = some (.int .i64 n.f2) := blk_cell HN.out 2; have y3 : w3.cell? ⟨g, 3, none⟩ = some (.int .i64 n.f3) := blk_cell HN.out 3; have y4 : w3.cell? ⟨g, 4, none⟩ = some (.string n.f4) := blk_cell HN.out 4; have hlt : g < w3.heap.size := blk_lt HN.out; have hne : g ≠ w3.heap.size := Nat.ne_of_lt hlt; clear hb3) | (at_lookup; refine wpList_lookup_ok _ rfl _ _ 46 rfl 3 51 (KeyOK.int .i64) Try.underlying46 Try.underlying3 (zero51 _) rfl HM.out n.f0 rfl _ hv0.out _ hb0.out ?_) | (at_lookup; refine wpList_lookup_ok _ rfl _ _ 46 rfl 3 51 (KeyOK.int .i64) Try.underlying46 Try.underlying3 (zero51 _) rfl (HM.out.alloc _) n.f1 rfl _ hv1.out _ hb1.out ?_))
         have HBn := Aside0.mk (below_alloc (below_alloc HB.out (.cells #[.int .i64 0, .int .i64 0] 51)) (.cells #[.int .i64 p1, .int .i64 p2] 51))
         have HMn := Aside0.mk ((HM.out.alloc (.cells #[.int .i64 0, .int .i64 0] 51)).alloc (.cells #[.int .i64 p1, .int .i64 p2] 51))
         have HNn := Aside0.mk (blk_alloc (blk_alloc HN.out (.cells #[.int .i64 0, .int .i64 0] 51)) (.cells #[.int .i64 p1, .int .i64 p2] 51))
         have HTn := Aside0.mk (show ((w3.alloc (.cells #[.int .i64 0, .int .i64 0] 51)).alloc (.cells #[.int .i64 p1, .int .i64 p2] 51)).heap[w3.heap.size + 1]? = some (.cells #[.int .i64 p1, .int .i64 p2] 51 (0, 0)) from by have h_ := heap_alloc_new (w3.alloc (.cells #[.int .i64 0, .int .i64 0] 51)) (.cells #[.int .i64 p1, .int .i64 p2] 51); simpa using h_)
         clear HB HM HN y0 y1 y2 y3 y4 hlt hne
         generalize (w3.alloc (.cells #[.int .i64 0, .int .i64 0] 51)).alloc (.cells #[.int .i64 p1, .int .i64 p2] 51) = W at HBn HMn HNn HTn ⊢
         generalize w3.heap.size + 1 = t at HTn ⊢
         have HB := HBn
         have HM := HMn
         have HN := HNn
         have HT := HTn
         clear HBn HMn HNn HTn
         have y0 : W.cell? ⟨g, 0, none⟩ = some (.int .i64 n.f0) := blk_cell HN.out 0
         have y1 : W.cell? ⟨g, 1, none⟩ = some (.int .i64 n.f1) := blk_cell HN.out 1
         have y2 : W.cell? ⟨g, 2, none⟩ = some (.int .i64 n.f2) := blk_cell HN.out 2
         have y3 : W.cell? ⟨g, 3, none⟩ = some (.int .i64 n.f3) := blk_cell HN.out 3
         have y4 : W.cell? ⟨g, 4, none⟩ = some (.string n.f4) := blk_cell HN.out 4
         have hlt : g < W.heap.size := blk_lt HN.out
         have hne : g ≠ W.heap.size := Nat.ne_of_lt hlt
         refine (tree_kids.calls 4001 _ c0 l0 n.f1 (kidsL l0 n.f1) W (Kd.C_below HR.out HB.out) HC0.out (kids_f _ _ HL.out)).mono ?_
         rintro e w5 ⟨v5, rfl, hR5, hb5⟩
         obtain ⟨A5, c5, rfl⟩ := Kd.R_slice hR5
         have HK := Aside0.mk (Kd.R_reads' hR5)
         clear hR5
         have HBn := Aside0.mk (HB.out.trans (hb5.mono HB.out.size))
         have HMn := Aside0.mk (HM.out.below hb5)
         have HNn := Aside0.mk ((hb5.block g (blk_lt HN.out)).trans HN.out)
         have HTn := Aside0.mk ((hb5.block t (blk_lt HT.out)).trans HT.out)
         clear HB HM HN HT y0 y1 y2 y3 y4 hlt hne
         have HB := HBn
         have HM := HMn
         have HN := HNn
         have HT := HTn
         clear HBn HMn HNn HTn
         have y0 : w5.cell? ⟨g, 0, none⟩ = some (.int .i64 n.f0) := blk_cell HN.out 0
         have y1 : w5.cell? ⟨g, 1, none⟩ = some (.int .i64 n.f1) := blk_cell HN.out 1
         have y2 : w5.cell? ⟨g, 2, none⟩ = some (.int .i64 n.f2) := blk_cell HN.out 2
         have y3 : w5.cell? ⟨g, 3, none⟩ = some (.int .i64 n.f3) := blk_cell HN.out 3
         have y4 : w5.cell? ⟨g, 4, none⟩ = some (.string n.f4) := blk_cell HN.out 4
         have hlt : g < w5.heap.size := blk_lt HN.out
         have hne : g ≠ w5.heap.size := Nat.ne_of_lt hlt
         clear hb5
         go_wp2_with (first | (go_at_call 43; (with_reducible refine (slices_Contains_int_int.calls 4001 A5 c5 (kidsL l0 n.f1) b true _ HK.out.2.2 HK.out.2.1 hin.out).mono ?_); rintro e w6 ⟨rfl, hd⟩; have HBn := Aside0.mk (HB.out.trans (hd.below.mono HB.out.size)); have HMn := Aside0.mk (HM.out.below hd.below); have HNn := Aside0.mk ((hd.below.block g (blk_lt HN.out)).trans HN.out); have HTn := Aside0.mk ((hd.below.block t (blk_lt HT.out)).trans HT.out); clear HB HM HN HT y0 y1 y2 y3 y4 hlt hne; have HB := HBn; have HM := HMn; have HN := HNn; have HT := HTn; clear HBn HMn HNn HTn; have y0 : w6.cell? ⟨g, 0, none⟩ = some (.int .i64 n.f0) := blk_cell HN.out 0; have y1 : w6.cell? ⟨g, 1, none⟩ = some (.int .i64 n.f1) := blk_cell HN.out 1; have y2 : w6.cell? ⟨g, 2, none⟩ = some (.int .i64 n.f2) := blk_cell HN.out 2; have y3 : w6.cell? ⟨g, 3, none⟩ = some (.int .i64 n.f3) := blk_cell HN.out 3; have y4 : w6.cell? ⟨g, 4, none⟩ = some (.string n.f4) := blk_cell HN.out 4; have hlt : g < w6.heap.size := blk_lt HN.out; have hne : g ≠ w6.heap.size := Nat.ne_of_lt hlt; clear hd))
         obtain ⟨W, rfl⟩ : ∃ W0 : World, W0 = w6 := ⟨_, rfl⟩
         have zt0 : W.cell? ⟨t, 0, none⟩ = some (.int .i64 p1) := blk_cell HT.out 0
         have zt1 : W.cell? ⟨t, 1, none⟩ = some (.int .i64 p2) := blk_cell HT.out 1
         have htlt := blk_lt HT.out
         obtain ⟨ad, e2, _, _, zk, _, _⟩ := at_T24 (Kd.C_below HR.out HB.out) p1 hp1a hp1b
         subst e2
         obtain ⟨kk, hkk⟩ : ∃ kk, kk = (rd_T24 l0 p1).f2 := ⟨_, rfl⟩
         rw [← hkk] at zk
         have Hkk := Aside0.mk hkk
         clear hkk
         by_cases hs : standsB n.f2 kk = true
         ·have hst : Aside0 (tree_stands.f n.f2 kk = some true) := ⟨by rw [stands_f, hs]⟩
          have hsf : Aside0 (standsB n.f2 (rd_T24 l0 p1).f2 = true) := ⟨by rw [← Hkk.out]; exact hs⟩
          clear hs
          refine start_ (n := 11) (S := fun w' => w'.cell? ⟨g, 2, none⟩ = some (.int .i64 n.f2) ∧ w'.cell? ⟨t, 0, none⟩ = some (.int .i64 p1) ∧ w'.cell? ⟨(ad.add (p1.toNat * 5)).block, (ad.add (p1.toNat * 5)).off + 2, none⟩ = some (.int .i64 kk)) (ds := []) #[false, false, false, false, false, false, false, false, false, false, false] (by kernel_rfl) rfl rfl ⟨(((below_drew1 (Below.refl W.heap.size W)).cell (p := ⟨g, 2, none⟩) hlt).trans y2), (((below_drew1 (Below.refl W.heap.size W)).cell (p := ⟨t, 0, none⟩) htlt).trans zt0), (((below_drew1 (Below.refl W.heap.size W)).cell (p := ⟨(ad.add (p1.toNat * 5)).block, (ad.add (p1.toNat * 5)).off + 2, none⟩) (World.block_lt_of_cell? W _ zk)).trans zk)⟩ (fun hHeld => ?_)
          refine with_tabW insert_r.tab12 insert_r.bits12 (fun HT_ HW_ => ?_)
          refine pz_ 0 (some 71) ?_
          refine pz_ 2 (some 73) ?_
          refine pz_ 3 (some 74) ?_
          refine tz_ 1 (some 72) hHeld ?_
          refine tz_ 4 (some 75) hHeld ?_
          refine pz_ 5 (some 76) ?_
          refine pz_ 6 (some 77) ?_
          refine tz_ 7 (some 78) hHeld ?_
          refine oz_ 8 (some 79) (fun K hK => ?_)
          refine goes_ Try.func44 (by kernel_rfl) rfl #[.int .i64 n.f2, .int .i64 kk] (by rfl) rfl rfl z26_ ?_
          with_reducible refine (tree_stands.calls n.f2 kk true _ hst.out).mono ?_
          rintro e w7 ⟨rfl, hds⟩
          refine ⟨_, rfl, ?_⟩
          have hb7 : Below W.heap.size W w7 := (below_drew1 (Below.refl _ W)).trans hds.below
          refine hK.out _ _ ⟨((hb7.cell (p := ⟨g, 2, none⟩) hlt).trans y2), ((hb7.cell (p := ⟨t, 0, none⟩) htlt).trans zt0), ((hb7.cell (p := ⟨(ad.add (p1.toNat * 5)).block, (ad.add (p1.toNat * 5)).off + 2, none⟩) (World.block_lt_of_cell? W _ zk)).trans zk)⟩ (fun hHeld => ?_)
          clear hK K
          refine norm_ (a' := ?_) ?_ ?_
          rotate_left
          ·show Act.put _ (some 79) _ = _
           simp only [Act.put, List.setIfInBounds_toArray, List.set_cons_zero, List.set_cons_succ, i64_w, i32_w]
           rfl
          refine pz_ 9 (some 80) ?_
          refine pz_ 10 (some 70) ?_
          refine done_ (done_of HT_.out (by kernel_rfl)) ?_

          have HBn := Aside0.mk (HB.out.trans (hb7.mono HB.out.size))
          have HMn := Aside0.mk (HM.out.below hb7)
          have HNn := Aside0.mk ((hb7.block g (blk_lt HN.out)).trans HN.out)
          have HTn := Aside0.mk ((hb7.block t (blk_lt HT.out)).trans HT.out)
          clear HB HM HN HT y0 y1 y2 y3 y4 hlt hne
          have HB := HBn
          have HM := HMn
          have HN := HNn
          have HT := HTn
          clear HBn HMn HNn HTn
          have y0 : w7.cell? ⟨g, 0, none⟩ = some (.int .i64 n.f0) := blk_cell HN.out 0
          have y1 : w7.cell? ⟨g, 1, none⟩ = some (.int .i64 n.f1) := blk_cell HN.out 1
          have y2 : w7.cell? ⟨g, 2, none⟩ = some (.int .i64 n.f2) := blk_cell HN.out 2
          have y3 : w7.cell? ⟨g, 3, none⟩ = some (.int .i64 n.f3) := blk_cell HN.out 3
          have y4 : w7.cell? ⟨g, 4, none⟩ = some (.string n.f4) := blk_cell HN.out 4
          have hlt : g < w7.heap.size := blk_lt HN.out
          have hne : g ≠ w7.heap.size := Nat.ne_of_lt hlt
          have zt3 : w7.cell? ⟨t, 1, none⟩ = some (.int .i64 p2) := blk_cell HT.out 1
          clear zt0 zt1 zk htlt hb7
          by_cases h4 : l0.length = 4000
          ·have h4b : ((l0.length : Int) == 4000) = true := by simp; omega
           have H2 := HP.out
           unfold insertP at H2
           rw [HD.out] at H2
           simp [hbz, hidb, Hf.out, Hp0.out, Hm0.out, Hm1.out, hsf.out, h4, Hk.out] at H2
           obtain ⟨rfl, rfl⟩ := H2
           clear h4 HP
           go_wp2
           go_ret2
           exact ⟨_, rfl, Kd.R_nil _ _ _ _ _, HB.out⟩
          ·have h4b : ((l0.length : Int) == 4000) = false := by simp; omega
           by_cases h30 : p2 = 30
           ·have h30b : (p2 == 30) = true := by simpa using h30
            have H2 := HP.out
            unfold insertP at H2
            rw [HD.out] at H2
            simp [hbz, hidb, Hf.out, Hp0.out, Hm0.out, Hm1.out, hsf.out, h4, h30, Hk.out] at H2
            obtain ⟨rfl, rfl⟩ := H2
            clear h4 h30 HP
            go_wp2
            go_ret2
            exact ⟨_, rfl, Kd.R_nil _ _ _ _ _, HB.out⟩
           ·have h30b : (p2 == 30) = false := by simpa using h30
            have H2 := HP.out
            unfold insertP at H2
            rw [HD.out] at H2
            simp [hbz, hidb, Hf.out, Hp0.out, Hm0.out, Hm1.out, hsf.out, h4, h30, Hk.out] at H2
            obtain ⟨q, hput, rfl, rfl⟩ := H2
            have HPut := Aside0.mk hput
            clear h4 h30 HP hput
            go_wp2_with (first | (go_at_call 45; (refine (put_calls _ c0 l0 (some ⟨w7.heap.size, 0, none⟩) 1 [n] _ _ _ (Kd.C_alloc (Kd.C_below HR.out HB.out) _) HC0.out (C_one w7 n) (Nat.le_refl _) (by have := HL.out; simp <;> omega) HPut.out).mono ?_); rintro e w8 ⟨v8, rfl, hR8, hb8⟩))
            go_ret2
            exact ⟨_, rfl, Kd.R_lower hR8 (by have := HB.out.size; simp; omega), (below_alloc HB.out _).trans (hb8.mono (by have := HB.out.size; simp; omega))⟩
         ·have hst : Aside0 (tree_stands.f n.f2 kk = some false) := ⟨by rw [stands_f]; simpa using hs⟩
          have hsf : Aside0 (standsB n.f2 (rd_T24 l0 p1).f2 = false) := ⟨by rw [← Hkk.out]; simpa using hs⟩
          clear hs
          have H2 := HP.out
          unfold insertP at H2
          rw [HD.out] at H2
          simp [hbz, hidb, Hf.out, Hp0.out, Hm0.out, Hm1.out, hsf.out, Hk.out] at H2
          obtain ⟨rfl, rfl⟩ := H2
          clear HP
          refine start_ (n := 11) (S := fun w' => w'.cell? ⟨g, 2, none⟩ = some (.int .i64 n.f2) ∧ w'.cell? ⟨t, 0, none⟩ = some (.int .i64 p1) ∧ w'.cell? ⟨(ad.add (p1.toNat * 5)).block, (ad.add (p1.toNat * 5)).off + 2, none⟩ = some (.int .i64 kk)) (ds := []) #[false, false, false, false, false, false, false, false, false, false, false] (by kernel_rfl) rfl rfl ⟨(((below_drew1 (Below.refl W.heap.size W)).cell (p := ⟨g, 2, none⟩) hlt).trans y2), (((below_drew1 (Below.refl W.heap.size W)).cell (p := ⟨t, 0, none⟩) htlt).trans zt0), (((below_drew1 (Below.refl W.heap.size W)).cell (p := ⟨(ad.add (p1.toNat * 5)).block, (ad.add (p1.toNat * 5)).off + 2, none⟩) (World.block_lt_of_cell? W _ zk)).trans zk)⟩ (fun hHeld => ?_)
          refine with_tabW insert_r.tab12 insert_r.bits12 (fun HT_ HW_ => ?_)
          refine pz_ 0 (some 71) ?_
          refine pz_ 2 (some 73) ?_
          refine pz_ 3 (some 74) ?_
          refine tz_ 1 (some 72) hHeld ?_
          refine tz_ 4 (some 75) hHeld ?_
          refine pz_ 5 (some 76) ?_
          refine pz_ 6 (some 77) ?_
          refine tz_ 7 (some 78) hHeld ?_
          refine oz_ 8 (some 79) (fun K hK => ?_)
          refine goes_ Try.func44 (by kernel_rfl) rfl #[.int .i64 n.f2, .int .i64 kk] (by rfl) rfl rfl z26_ ?_
          with_reducible refine (tree_stands.calls n.f2 kk false _ hst.out).mono ?_
          rintro e w7 ⟨rfl, hds⟩
          refine ⟨_, rfl, ?_⟩
          have hb7 : Below W.heap.size W w7 := (below_drew1 (Below.refl _ W)).trans hds.below
          refine hK.out _ _ ⟨((hb7.cell (p := ⟨g, 2, none⟩) hlt).trans y2), ((hb7.cell (p := ⟨t, 0, none⟩) htlt).trans zt0), ((hb7.cell (p := ⟨(ad.add (p1.toNat * 5)).block, (ad.add (p1.toNat * 5)).off + 2, none⟩) (World.block_lt_of_cell? W _ zk)).trans zk)⟩ (fun hHeld => ?_)
          clear hK K
          refine norm_ (a' := ?_) ?_ ?_
          rotate_left
          ·show Act.put _ (some 79) _ = _
           simp only [Act.put, List.setIfInBounds_toArray, List.set_cons_zero, List.set_cons_succ, i64_w, i32_w]
           rfl
          refine pz_ 9 (some 80) ?_
          refine pz_ 10 (some 70) ?_
          refine done_ (done_of HT_.out (by kernel_rfl)) ?_

          have HBn := Aside0.mk (HB.out.trans (hb7.mono HB.out.size))
          have HMn := Aside0.mk (HM.out.below hb7)
          have HNn := Aside0.mk ((hb7.block g (blk_lt HN.out)).trans HN.out)
          have HTn := Aside0.mk ((hb7.block t (blk_lt HT.out)).trans HT.out)
          clear HB HM HN HT y0 y1 y2 y3 y4 hlt hne
          have HB := HBn
          have HM := HMn
          have HN := HNn
          have HT := HTn
          clear HBn HMn HNn HTn
          have y0 : w7.cell? ⟨g, 0, none⟩ = some (.int .i64 n.f0) := blk_cell HN.out 0
          have y1 : w7.cell? ⟨g, 1, none⟩ = some (.int .i64 n.f1) := blk_cell HN.out 1
          have y2 : w7.cell? ⟨g, 2, none⟩ = some (.int .i64 n.f2) := blk_cell HN.out 2
          have y3 : w7.cell? ⟨g, 3, none⟩ = some (.int .i64 n.f3) := blk_cell HN.out 3
          have y4 : w7.cell? ⟨g, 4, none⟩ = some (.string n.f4) := blk_cell HN.out 4
          have hlt : g < w7.heap.size := blk_lt HN.out
          have hne : g ≠ w7.heap.size := Nat.ne_of_lt hlt
          clear zt0 zt1 zk htlt hb7
          go_wp2
          go_ret2
          exact ⟨_, rfl, Kd.R_nil _ _ _ _ _, HB.out⟩
        ·have hin : Aside0 (slices_Contains_int_int.f 4001 (kidsL l0 n.f1) b = some false) := ⟨by rw [contains_f _ _ (Nat.le_trans (kidsL_len _ _) HL.out)]; simpa using hk⟩
         have H2 := HP.out
         unfold insertP at H2
         rw [HD.out] at H2
         simp [hbz, hidb, Hf.out, Hp0.out, Hm0.out, Hm1.out, hk] at H2
         obtain ⟨rfl, rfl⟩ := H2
         clear hk HP
         go_wp2_with (first | (go_at_call 32; (with_reducible refine (tree_isID.calls b true _ hid.out).mono ?_); rintro e w2 ⟨rfl, hd⟩; have HBn := Aside0.mk (HB.out.trans (hd.below.mono HB.out.size)); have HMn := Aside0.mk (HM.out.below hd.below); have HNn := Aside0.mk ((hd.below.block g (blk_lt HN.out)).trans HN.out); clear HB HM HN y0 y1 y2 y3 y4 hlt hne; have HB := HBn; have HM := HMn; have HN := HNn; clear HBn HMn HNn; have y0 : w2.cell? ⟨g, 0, none⟩ = some (.int .i64 n.f0) := blk_cell HN.out 0; have y1 : w2.cell? ⟨g, 1, none⟩ = some (.int .i64 n.f1) := blk_cell HN.out 1; have y2 : w2.cell? ⟨g, 2, none⟩ = some (.int .i64 n.f2) := blk_cell HN.out 2; have y3 : w2.cell? ⟨g, 3, none⟩ = some (.int .i64 n.f3) := blk_cell HN.out 3; have y4 : w2.cell? ⟨g, 4, none⟩ = some (.string n.f4) := blk_cell HN.out 4; have hlt : g < w2.heap.size := blk_lt HN.out; have hne : g ≠ w2.heap.size := Nat.ne_of_lt hlt; clear hd) | (go_at_call 42; (with_reducible refine (tree_formed.calls n.f0 n.f1 n.f2 n.f3 n.f4 true _ hff.out).mono ?_); rintro e w3 ⟨rfl, hb3⟩; have HBn := Aside0.mk (HB.out.trans (hb3.mono HB.out.size)); have HMn := Aside0.mk (HM.out.below hb3); have HNn := Aside0.mk ((hb3.block g (blk_lt HN.out)).trans HN.out); clear HB HM HN y0 y1 y2 y3 y4 hlt hne; have HB := HBn; have HM := HMn; have HN := HNn; clear HBn HMn HNn; have y0 : w3.cell? ⟨g, 0, none⟩ = some (.int .i64 n.f0) := blk_cell HN.out 0; have y1 : w3.cell? ⟨g, 1, none⟩ = some (.int .i64 n.f1) := blk_cell HN.out 1; have y2 : w3.cell? ⟨g, 2, none⟩ = some (.int .i64 n.f2) := blk_cell HN.out 2; have y3 : w3.cell? ⟨g, 3, none⟩ = some (.int .i64 n.f3) := blk_cell HN.out 3; have y4 : w3.cell? ⟨g, 4, none⟩ = some (.string n.f4) := blk_cell HN.out 4; have hlt : g < w3.heap.size := blk_lt HN.out; have hne : g ≠ w3.heap.size := Nat.ne_of_lt hlt; clear hb3) | (at_lookup; refine wpList_lookup_ok _ rfl _ _ 46 rfl 3 51 (KeyOK.int .i64) Try.underlying46 Try.underlying3 (zero51 _) rfl HM.out n.f0 rfl _ hv0.out _ hb0.out ?_) | (at_lookup; refine wpList_lookup_ok _ rfl _ _ 46 rfl 3 51 (KeyOK.int .i64) Try.underlying46 Try.underlying3 (zero51 _) rfl (HM.out.alloc _) n.f1 rfl _ hv1.out _ hb1.out ?_))
         have HBn := Aside0.mk (below_alloc (below_alloc HB.out (.cells #[.int .i64 0, .int .i64 0] 51)) (.cells #[.int .i64 p1, .int .i64 p2] 51))
         have HMn := Aside0.mk ((HM.out.alloc (.cells #[.int .i64 0, .int .i64 0] 51)).alloc (.cells #[.int .i64 p1, .int .i64 p2] 51))
         have HNn := Aside0.mk (blk_alloc (blk_alloc HN.out (.cells #[.int .i64 0, .int .i64 0] 51)) (.cells #[.int .i64 p1, .int .i64 p2] 51))
         have HTn := Aside0.mk (show ((w3.alloc (.cells #[.int .i64 0, .int .i64 0] 51)).alloc (.cells #[.int .i64 p1, .int .i64 p2] 51)).heap[w3.heap.size + 1]? = some (.cells #[.int .i64 p1, .int .i64 p2] 51 (0, 0)) from by have h_ := heap_alloc_new (w3.alloc (.cells #[.int .i64 0, .int .i64 0] 51)) (.cells #[.int .i64 p1, .int .i64 p2] 51); simpa using h_)
         clear HB HM HN y0 y1 y2 y3 y4 hlt hne
         generalize (w3.alloc (.cells #[.int .i64 0, .int .i64 0] 51)).alloc (.cells #[.int .i64 p1, .int .i64 p2] 51) = W at HBn HMn HNn HTn ⊢
         generalize w3.heap.size + 1 = t at HTn ⊢
         have HB := HBn
         have HM := HMn
         have HN := HNn
         have HT := HTn
         clear HBn HMn HNn HTn
         have y0 : W.cell? ⟨g, 0, none⟩ = some (.int .i64 n.f0) := blk_cell HN.out 0
         have y1 : W.cell? ⟨g, 1, none⟩ = some (.int .i64 n.f1) := blk_cell HN.out 1
         have y2 : W.cell? ⟨g, 2, none⟩ = some (.int .i64 n.f2) := blk_cell HN.out 2
         have y3 : W.cell? ⟨g, 3, none⟩ = some (.int .i64 n.f3) := blk_cell HN.out 3
         have y4 : W.cell? ⟨g, 4, none⟩ = some (.string n.f4) := blk_cell HN.out 4
         have hlt : g < W.heap.size := blk_lt HN.out
         have hne : g ≠ W.heap.size := Nat.ne_of_lt hlt
         refine (tree_kids.calls 4001 _ c0 l0 n.f1 (kidsL l0 n.f1) W (Kd.C_below HR.out HB.out) HC0.out (kids_f _ _ HL.out)).mono ?_
         rintro e w5 ⟨v5, rfl, hR5, hb5⟩
         obtain ⟨A5, c5, rfl⟩ := Kd.R_slice hR5
         have HK := Aside0.mk (Kd.R_reads' hR5)
         clear hR5
         have HBn := Aside0.mk (HB.out.trans (hb5.mono HB.out.size))
         have HMn := Aside0.mk (HM.out.below hb5)
         have HNn := Aside0.mk ((hb5.block g (blk_lt HN.out)).trans HN.out)
         have HTn := Aside0.mk ((hb5.block t (blk_lt HT.out)).trans HT.out)
         clear HB HM HN HT y0 y1 y2 y3 y4 hlt hne
         have HB := HBn
         have HM := HMn
         have HN := HNn
         have HT := HTn
         clear HBn HMn HNn HTn
         have y0 : w5.cell? ⟨g, 0, none⟩ = some (.int .i64 n.f0) := blk_cell HN.out 0
         have y1 : w5.cell? ⟨g, 1, none⟩ = some (.int .i64 n.f1) := blk_cell HN.out 1
         have y2 : w5.cell? ⟨g, 2, none⟩ = some (.int .i64 n.f2) := blk_cell HN.out 2
         have y3 : w5.cell? ⟨g, 3, none⟩ = some (.int .i64 n.f3) := blk_cell HN.out 3
         have y4 : w5.cell? ⟨g, 4, none⟩ = some (.string n.f4) := blk_cell HN.out 4
         have hlt : g < w5.heap.size := blk_lt HN.out
         have hne : g ≠ w5.heap.size := Nat.ne_of_lt hlt
         clear hb5
         go_wp2_with (first | (go_at_call 43; (with_reducible refine (slices_Contains_int_int.calls 4001 A5 c5 (kidsL l0 n.f1) b false _ HK.out.2.2 HK.out.2.1 hin.out).mono ?_); rintro e w6 ⟨rfl, hd⟩; have HBn := Aside0.mk (HB.out.trans (hd.below.mono HB.out.size)); have HMn := Aside0.mk (HM.out.below hd.below); have HNn := Aside0.mk ((hd.below.block g (blk_lt HN.out)).trans HN.out); have HTn := Aside0.mk ((hd.below.block t (blk_lt HT.out)).trans HT.out); clear HB HM HN HT y0 y1 y2 y3 y4 hlt hne; have HB := HBn; have HM := HMn; have HN := HNn; have HT := HTn; clear HBn HMn HNn HTn; have y0 : w6.cell? ⟨g, 0, none⟩ = some (.int .i64 n.f0) := blk_cell HN.out 0; have y1 : w6.cell? ⟨g, 1, none⟩ = some (.int .i64 n.f1) := blk_cell HN.out 1; have y2 : w6.cell? ⟨g, 2, none⟩ = some (.int .i64 n.f2) := blk_cell HN.out 2; have y3 : w6.cell? ⟨g, 3, none⟩ = some (.int .i64 n.f3) := blk_cell HN.out 3; have y4 : w6.cell? ⟨g, 4, none⟩ = some (.string n.f4) := blk_cell HN.out 4; have hlt : g < w6.heap.size := blk_lt HN.out; have hne : g ≠ w6.heap.size := Nat.ne_of_lt hlt; clear hd))
         go_ret2
         exact ⟨_, rfl, Kd.R_nil _ _ _ _ _, HB.out⟩
    ·have hff : Aside0 (tree_formed.f n.f0 n.f1 n.f2 n.f3 n.f4 = some false) := ⟨by rw [formed_f]; simpa using hf⟩
     have H2 := HP.out
     unfold insertP at H2
     rw [HD.out] at H2
     simp [hbz, hidb, hf] at H2
     obtain ⟨rfl, rfl⟩ := H2
     clear hf HP
     go_wp2_with (first | (go_at_call 32; (with_reducible refine (tree_isID.calls b true _ hid.out).mono ?_); rintro e w2 ⟨rfl, hd⟩; have HBn := Aside0.mk (HB.out.trans (hd.below.mono HB.out.size)); have HMn := Aside0.mk (HM.out.below hd.below); have HNn := Aside0.mk ((hd.below.block g (blk_lt HN.out)).trans HN.out); clear HB HM HN y0 y1 y2 y3 y4 hlt hne; have HB := HBn; have HM := HMn; have HN := HNn; clear HBn HMn HNn; have y0 : w2.cell? ⟨g, 0, none⟩ = some (.int .i64 n.f0) := blk_cell HN.out 0; have y1 : w2.cell? ⟨g, 1, none⟩ = some (.int .i64 n.f1) := blk_cell HN.out 1; have y2 : w2.cell? ⟨g, 2, none⟩ = some (.int .i64 n.f2) := blk_cell HN.out 2; have y3 : w2.cell? ⟨g, 3, none⟩ = some (.int .i64 n.f3) := blk_cell HN.out 3; have y4 : w2.cell? ⟨g, 4, none⟩ = some (.string n.f4) := blk_cell HN.out 4; have hlt : g < w2.heap.size := blk_lt HN.out; have hne : g ≠ w2.heap.size := Nat.ne_of_lt hlt; clear hd) | (go_at_call 42; (with_reducible refine (tree_formed.calls n.f0 n.f1 n.f2 n.f3 n.f4 false _ hff.out).mono ?_); rintro e w3 ⟨rfl, hb3⟩; have HBn := Aside0.mk (HB.out.trans (hb3.mono HB.out.size)); have HMn := Aside0.mk (HM.out.below hb3); have HNn := Aside0.mk ((hb3.block g (blk_lt HN.out)).trans HN.out); clear HB HM HN y0 y1 y2 y3 y4 hlt hne; have HB := HBn; have HM := HMn; have HN := HNn; clear HBn HMn HNn; have y0 : w3.cell? ⟨g, 0, none⟩ = some (.int .i64 n.f0) := blk_cell HN.out 0; have y1 : w3.cell? ⟨g, 1, none⟩ = some (.int .i64 n.f1) := blk_cell HN.out 1; have y2 : w3.cell? ⟨g, 2, none⟩ = some (.int .i64 n.f2) := blk_cell HN.out 2; have y3 : w3.cell? ⟨g, 3, none⟩ = some (.int .i64 n.f3) := blk_cell HN.out 3; have y4 : w3.cell? ⟨g, 4, none⟩ = some (.string n.f4) := blk_cell HN.out 4; have hlt : g < w3.heap.size := blk_lt HN.out; have hne : g ≠ w3.heap.size := Nat.ne_of_lt hlt; clear hb3))
     go_ret2
     exact ⟨_, rfl, Kd.R_nil _ _ _ _ _, HB.out⟩
   ·have hid : Aside0 (tree_isID.f b = some false) := ⟨by rw [idB_f]; simpa using hidb⟩
    have H2 := HP.out
    unfold insertP at H2
    rw [HD.out] at H2
    simp [hbz, hidb] at H2
    obtain ⟨rfl, rfl⟩ := H2
    clear HP hidb hbz
    go_wp2_with (first | (go_at_call 32; (with_reducible refine (tree_isID.calls b false _ hid.out).mono ?_); rintro e w2 ⟨rfl, hd⟩; have HBn := Aside0.mk (HB.out.trans (hd.below.mono HB.out.size)); have HMn := Aside0.mk (HM.out.below hd.below); have HNn := Aside0.mk ((hd.below.block g (blk_lt HN.out)).trans HN.out); clear HB HM HN y0 y1 y2 y3 y4 hlt hne; have HB := HBn; have HM := HMn; have HN := HNn; clear HBn HMn HNn; have y0 : w2.cell? ⟨g, 0, none⟩ = some (.int .i64 n.f0) := blk_cell HN.out 0; have y1 : w2.cell? ⟨g, 1, none⟩ = some (.int .i64 n.f1) := blk_cell HN.out 1; have y2 : w2.cell? ⟨g, 2, none⟩ = some (.int .i64 n.f2) := blk_cell HN.out 2; have y3 : w2.cell? ⟨g, 3, none⟩ = some (.int .i64 n.f3) := blk_cell HN.out 3; have y4 : w2.cell? ⟨g, 4, none⟩ = some (.string n.f4) := blk_cell HN.out 4; have hlt : g < w2.heap.size := blk_lt HN.out; have hne : g ≠ w2.heap.size := Nat.ne_of_lt hlt; clear hd))
    go_ret2
    exact ⟨_, rfl, Kd.R_nil _ _ _ _ _, HB.out⟩
def tree_Insert.f (l0 : List S24) (a1_0 a1_1 a1_2 a1_3 : Int) (a1_4 : ByteArray) (a2 : Int) : Option (List S24 × Int) := insertP l0 ⟨a1_0, a1_1, a1_2, a1_3, a1_4⟩ a2
theorem tree_Insert.calls (A0 : Option Addr) (c0 : Nat) (l0 : List (S24)) (a1_0 : Int) (a1_1 : Int) (a1_2 : Int) (a1_3 : Int) (a1_4 : ByteArray) (a2 : Int) (r1 : List (S24)) (r2 : Int) (w : World) (hr0 : Kd.C k24 w A0 l0.length l0) (hc0 : l0.length ≤ c0) (h : tree_Insert.f l0 a1_0 a1_1 a1_2 a1_3 a1_4 a2 = some (r1, r2)) :
  Calls Try.prog 20 #[.slice A0 l0.length c0, .agg #[.int .i64 a1_0, .int .i64 a1_1, .int .i64 a1_2, .int .i64 a1_3, .string a1_4], .int .i64 a2] w fun e w' => ∃ v0_ : Value, e = .returned (.tuple #[v0_, .int .i64 r2]) ∧ Kd.R k24 24 w' w.heap.size (fun _ => True) v0_ r1 ∧ Below w.heap.size w w' :=
 insert_calls A0 c0 l0 ⟨a1_0, a1_1, a1_2, a1_3, a1_4⟩ a2 r1 r2 w hr0 hc0 h
end Go.Proofs.Ytpafhhgoldenoaa.P
end
section
namespace Go.Proofs.Ytpafhhgoldenoaa.P
open Go.RowKit Go.Proofs.YtpafhhgoldenoaaW.PrintWords Go.Proofs.YtpafhhgoldenoaaW.PrintLast Go.Proofs.YtpafhhgoldenoaaW.PrintMore
open Go.Proofs.Ytpafhhgoldenoaa.XM
set_option linter.unusedVariables false
set_option linter.unusedSimpArgs false
attribute [local go_sem] encP
def reparent (x : S24) (p : Int) : S24 := ⟨x.f0, p, x.f2, x.f3, x.f4⟩
def insideB (g : List S24) (par : Int) : Bool := decide (0 ≤ ixFind (fun n => decide (n.f0 = par)) g)
def moveP (l : List S24) (id par b : Int) : Option (List S24 × Int) :=
 match placesP l with
 | none => some ([], 1)
 | some D =>
  if idB id = false then some ([], 1)
  else if idB par = false then some ([], 1)
  else if b ≠ 0 ∧ idB b = false then some ([], 1)
  else match mlook D id, mlook D par with
   | some pn, some pp =>
    if pn.1 = 0 then some ([], 24)
    else if insideB (splitP l id).2 par = true then some ([], 24)
    else if b ≠ 0 ∧ b = id then some ([], 24)
    else if b ≠ 0 ∧ b ∉ kidsL l par then some ([], 24)
    else if standsB (rd_T24 l pn.1).f2 (rd_T24 l pp.1).f2 = false then some ([], 25)
    else match (splitP l id).2 with
     | [] => none
     | x :: r => (putP (splitP l id).1 (reparent x par :: r) b).map (fun out => if (placesP out).isSome = true then (out, 0) else ([], 2))
   | _, _ => some ([], 4)
theorem spGo_len : ∀ (l : List S24) (D : IdSet) (s g : List S24), (spGo l D s g).1.length + (spGo l D s g).2.length = s.length + g.length + l.length
 | [], D, s, g => by simp [spGo]
 | n :: r, D, s, g => by
  simp only [spGo]
  split
  ·rw [spGo_len r]; simp; omega
  ·rw [spGo_len r]; simp; omega
theorem splitP_len (l : List S24) (id : Int) : (splitP l id).1.length + (splitP l id).2.length = l.length := by
 unfold splitP
 rw [spGo_len]; simp
def move_r.T12 : Bool × List (List Nat × List Nat) := (true, [([], []), ([], []), ([1], [1]), ([0, 2], [0, 2]), ([3], [3]), ([4], [4]), ([], []), ([], []), ([7], [7]), ([6, 8], [6, 8]), ([9], [9]), ([10], [10]), ([5, 11], [5, 11]), ([12], [12])])
def move_r.B12 : List Nat := [0, 0, 2, 7, 15, 31, 0, 0, 128, 448, 960, 1984, 4095, 8191]
theorem move_r.tab12 : rtab .any (opsOf Try.f25 12) = move_r.T12 := by kernel_rfl
theorem move_r.bits12 : waitsOk move_r.T12.2 move_r.B12 = true := by kernel_rfl
set_option maxHeartbeats 8000000 in
set_option maxRecDepth 100000 in
theorem move_calls (A0 : Option Addr) (c0 : Nat) (l0 : List S24) (id par b : Int) (r1 : List S24) (r2 : Int) (w : World) (hr0 : Kd.C k24 w A0 l0.length l0) (hc0 : l0.length ≤ c0) (h : moveP l0 id par b = some (r1, r2)) :
  Calls Try.prog 25 #[.slice A0 l0.length c0, .int .i64 id, .int .i64 par, .int .i64 b] w fun e w' => ∃ v0_ : Value, e = .returned (.tuple #[v0_, .int .i64 r2]) ∧ Kd.R k24 24 w' w.heap.size (fun _ => True) v0_ r1 ∧ Below w.heap.size w w' := by
 have hu24 := Try.underlying24
 have hu51 := Try.underlying51
 have HR := Aside0.mk hr0
 have HC0 := Aside0.mk hc0
 have HP := Aside0.mk h
 clear hr0 h
 have HB := Aside0.mk (below_alloc (Below.refl w.heap.size w) (.cells #[.int .i64 par] 3))
 have HN := Aside0.mk (heap_alloc_new w (.cells #[.int .i64 par] 3))
 go_enter Try.func25, Try.ntmps25
 go_wp2_with fail
 refine (places_calls A0 c0 l0 _ (Kd.C_alloc HR.out _) hc0).mono ?_
 rintro e w1 ⟨hb, hp⟩
 have HB1 := Aside0.mk (HB.out.trans (hb.mono HB.out.size))
 have HN1 := Aside0.mk ((hb.block w.heap.size (blk_lt HN.out)).trans HN.out)
 clear HB HN hb
 have HB := HB1
 have HN := HN1
 clear HB1 HN1
 obtain ⟨g, hg⟩ : ∃ g, g = w.heap.size := ⟨_, rfl⟩
 have HG := Aside0.mk hg
 simp only [← hg] at HN ⊢
 clear hg
 have y0 : w1.cell? ⟨g, 0, none⟩ = some (.int .i64 par) := blk_cell HN.out 0
 have hlt : g < w1.heap.size := blk_lt HN.out
 have hne : g ≠ w1.heap.size := Nat.ne_of_lt hlt
 cases hD : placesP l0 with
 | none =>
  rw [hD] at hp
  obtain rfl := hp
  have H2 := HP.out
  unfold moveP at H2
  rw [hD] at H2
  obtain ⟨rfl, rfl⟩ : [] = r1 ∧ (1 : Int) = r2 := by simpa using H2
  clear H2 HP hD
  go_wp2
  go_ret2
  exact ⟨_, rfl, Kd.R_nil _ _ _ _ _, HB.out⟩
 | some D =>
  rw [hD] at hp
  obtain ⟨bm, rfl, hM⟩ := hp
  have HM := Aside0.mk hM
  have HD := Aside0.mk hD
  obtain ⟨_, hl4, _, _, _, hinv⟩ := placesP_some hD
  have HI := Aside0.mk hinv
  have HL := Aside0.mk hl4
  clear hM hD hinv hl4
  by_cases hid_ : idB id = true
  ·have hid : Aside0 (tree_isID.f id = some true) := ⟨by rw [idB_f, hid_]⟩
   have Hid := Aside0.mk hid_
   clear hid_
   by_cases hpar_ : idB par = true
   ·have hpar : Aside0 (tree_isID.f par = some true) := ⟨by rw [idB_f, hpar_]⟩
    have Hpar := Aside0.mk hpar_
    clear hpar_
    by_cases hbz : b = 0
    ·have hbzb : (b != 0) = false := by simpa using hbz
     cases hm0 : mlook D id with
     | none =>
      have hb1x : ∃ q1 q2 qb, ((mlook D par).map encP).getD (.agg #[.int .i64 0, .int .i64 0]) = .agg #[.int .i64 q1, .int .i64 q2] ∧ (mlook D par).isSome = qb := by cases mlook D par <;> exact ⟨_, _, _, rfl, rfl⟩
      obtain ⟨q1, q2, qb, hq1, hq2⟩ := hb1x
      have hv1 := Aside0.mk hq1
      have hb1 := Aside0.mk hq2
      clear hq1 hq2
      have hv0 : Aside0 (((mlook D id).map encP).getD (.agg #[.int .i64 0, .int .i64 0]) = .agg #[.int .i64 0, .int .i64 0]) := ⟨by rw [hm0]; rfl⟩
      have hb0 : Aside0 ((mlook D id).isSome = false) := ⟨by rw [hm0]; rfl⟩
      have H2 := HP.out
      unfold moveP at H2
      rw [HD.out] at H2
      simp [Hid.out, Hpar.out, hbz, hm0] at H2
      obtain ⟨rfl, rfl⟩ := H2
      clear hm0 HP
      go_wp2_with (first | (go_at_call_of 32 (Value.int .i64 id); (with_reducible refine (tree_isID.calls id true _ hid.out).mono ?_); rintro e w2 ⟨rfl, hd⟩; have HBn := Aside0.mk (HB.out.trans (hd.below.mono HB.out.size)); have HMn := Aside0.mk (HM.out.below hd.below); have HNn := Aside0.mk ((hd.below.block g (blk_lt HN.out)).trans HN.out); clear HB HM HN y0 hlt hne; have HB := HBn; have HM := HMn; have HN := HNn; clear HBn HMn HNn; have y0 : w2.cell? ⟨g, 0, none⟩ = some (.int .i64 par) := blk_cell HN.out 0; have hlt : g < w2.heap.size := blk_lt HN.out; have hne : g ≠ w2.heap.size := Nat.ne_of_lt hlt; clear hd) | (go_at_call_of 32 (Value.int .i64 par); (with_reducible refine (tree_isID.calls par true _ hpar.out).mono ?_); rintro e w2 ⟨rfl, hd⟩; have HBn := Aside0.mk (HB.out.trans (hd.below.mono HB.out.size)); have HMn := Aside0.mk (HM.out.below hd.below); have HNn := Aside0.mk ((hd.below.block g (blk_lt HN.out)).trans HN.out); clear HB HM HN y0 hlt hne; have HB := HBn; have HM := HMn; have HN := HNn; clear HBn HMn HNn; have y0 : w2.cell? ⟨g, 0, none⟩ = some (.int .i64 par) := blk_cell HN.out 0; have hlt : g < w2.heap.size := blk_lt HN.out; have hne : g ≠ w2.heap.size := Nat.ne_of_lt hlt; clear hd) | (at_lookup; refine wpList_lookup_ok _ rfl (.tmp 47) (.tmp 48) 46 rfl 3 51 (KeyOK.int .i64) Try.underlying46 Try.underlying3 (zero51 _) rfl HM.out id rfl _ hv0.out _ hb0.out ?_) | (at_lookup; refine wpList_lookup_ok _ rfl (.tmp 53) (.tmp 54) 46 rfl 3 51 (KeyOK.int .i64) Try.underlying46 Try.underlying3 (zero51 _) rfl (HM.out.alloc _) par rfl _ hv1.out _ hb1.out ?_))
      go_ret2
      exact ⟨_, rfl, Kd.R_nil _ _ _ _ _, below_alloc (below_alloc HB.out _) _⟩
     | some pn =>
      obtain ⟨n1, n2⟩ := pn
      have hv0 : Aside0 (((mlook D id).map encP).getD (.agg #[.int .i64 0, .int .i64 0]) = .agg #[.int .i64 n1, .int .i64 n2]) := ⟨by rw [hm0]; rfl⟩
      have hb0 : Aside0 ((mlook D id).isSome = true) := ⟨by rw [hm0]; rfl⟩
      have Hm0 := Aside0.mk hm0
      have hI0 := HI.out _ _ hm0
      simp only at hI0
      clear hm0
      cases hm1 : mlook D par with
      | none =>
       have hv1 : Aside0 (((mlook D par).map encP).getD (.agg #[.int .i64 0, .int .i64 0]) = .agg #[.int .i64 0, .int .i64 0]) := ⟨by rw [hm1]; rfl⟩
       have hb1 : Aside0 ((mlook D par).isSome = false) := ⟨by rw [hm1]; rfl⟩
       have H2 := HP.out
       unfold moveP at H2
       rw [HD.out] at H2
       simp [Hid.out, Hpar.out, hbz, Hm0.out, hm1] at H2
       obtain ⟨rfl, rfl⟩ := H2
       clear hm1 HP
       go_wp2_with (first | (go_at_call_of 32 (Value.int .i64 id); (with_reducible refine (tree_isID.calls id true _ hid.out).mono ?_); rintro e w2 ⟨rfl, hd⟩; have HBn := Aside0.mk (HB.out.trans (hd.below.mono HB.out.size)); have HMn := Aside0.mk (HM.out.below hd.below); have HNn := Aside0.mk ((hd.below.block g (blk_lt HN.out)).trans HN.out); clear HB HM HN y0 hlt hne; have HB := HBn; have HM := HMn; have HN := HNn; clear HBn HMn HNn; have y0 : w2.cell? ⟨g, 0, none⟩ = some (.int .i64 par) := blk_cell HN.out 0; have hlt : g < w2.heap.size := blk_lt HN.out; have hne : g ≠ w2.heap.size := Nat.ne_of_lt hlt; clear hd) | (go_at_call_of 32 (Value.int .i64 par); (with_reducible refine (tree_isID.calls par true _ hpar.out).mono ?_); rintro e w2 ⟨rfl, hd⟩; have HBn := Aside0.mk (HB.out.trans (hd.below.mono HB.out.size)); have HMn := Aside0.mk (HM.out.below hd.below); have HNn := Aside0.mk ((hd.below.block g (blk_lt HN.out)).trans HN.out); clear HB HM HN y0 hlt hne; have HB := HBn; have HM := HMn; have HN := HNn; clear HBn HMn HNn; have y0 : w2.cell? ⟨g, 0, none⟩ = some (.int .i64 par) := blk_cell HN.out 0; have hlt : g < w2.heap.size := blk_lt HN.out; have hne : g ≠ w2.heap.size := Nat.ne_of_lt hlt; clear hd) | (at_lookup; refine wpList_lookup_ok _ rfl (.tmp 47) (.tmp 48) 46 rfl 3 51 (KeyOK.int .i64) Try.underlying46 Try.underlying3 (zero51 _) rfl HM.out id rfl _ hv0.out _ hb0.out ?_) | (at_lookup; refine wpList_lookup_ok _ rfl (.tmp 53) (.tmp 54) 46 rfl 3 51 (KeyOK.int .i64) Try.underlying46 Try.underlying3 (zero51 _) rfl (HM.out.alloc _) par rfl _ hv1.out _ hb1.out ?_))
       go_ret2
       exact ⟨_, rfl, Kd.R_nil _ _ _ _ _, below_alloc (below_alloc HB.out _) _⟩
      | some pp =>
       obtain ⟨p1, p2⟩ := pp
       have hv1 : Aside0 (((mlook D par).map encP).getD (.agg #[.int .i64 0, .int .i64 0]) = .agg #[.int .i64 p1, .int .i64 p2]) := ⟨by rw [hm1]; rfl⟩
       have hb1 : Aside0 ((mlook D par).isSome = true) := ⟨by rw [hm1]; rfl⟩
       have Hm1 := Aside0.mk hm1
       have hI1 := HI.out _ _ hm1
       simp only at hI1
       clear hm1
       have hn1a : 0 ≤ n1 := hI0.1
       have hn1b : n1 < (l0.length : Int) := hI0.2.1
       have hp1a : 0 ≤ p1 := hI1.1
       have hp1b : p1 < (l0.length : Int) := hI1.2.1
       clear hI0 hI1
       go_wp2_with (first | (go_at_call_of 32 (Value.int .i64 id); (with_reducible refine (tree_isID.calls id true _ hid.out).mono ?_); rintro e w2 ⟨rfl, hd⟩; have HBn := Aside0.mk (HB.out.trans (hd.below.mono HB.out.size)); have HMn := Aside0.mk (HM.out.below hd.below); have HNn := Aside0.mk ((hd.below.block g (blk_lt HN.out)).trans HN.out); clear HB HM HN y0 hlt hne; have HB := HBn; have HM := HMn; have HN := HNn; clear HBn HMn HNn; have y0 : w2.cell? ⟨g, 0, none⟩ = some (.int .i64 par) := blk_cell HN.out 0; have hlt : g < w2.heap.size := blk_lt HN.out; have hne : g ≠ w2.heap.size := Nat.ne_of_lt hlt; clear hd) | (go_at_call_of 32 (Value.int .i64 par); (with_reducible refine (tree_isID.calls par true _ hpar.out).mono ?_); rintro e w2 ⟨rfl, hd⟩; have HBn := Aside0.mk (HB.out.trans (hd.below.mono HB.out.size)); have HMn := Aside0.mk (HM.out.below hd.below); have HNn := Aside0.mk ((hd.below.block g (blk_lt HN.out)).trans HN.out); clear HB HM HN y0 hlt hne; have HB := HBn; have HM := HMn; have HN := HNn; clear HBn HMn HNn; have y0 : w2.cell? ⟨g, 0, none⟩ = some (.int .i64 par) := blk_cell HN.out 0; have hlt : g < w2.heap.size := blk_lt HN.out; have hne : g ≠ w2.heap.size := Nat.ne_of_lt hlt; clear hd) | (at_lookup; refine wpList_lookup_ok _ rfl (.tmp 47) (.tmp 48) 46 rfl 3 51 (KeyOK.int .i64) Try.underlying46 Try.underlying3 (zero51 _) rfl HM.out id rfl _ hv0.out _ hb0.out ?_) | (at_lookup; refine wpList_lookup_ok _ rfl (.tmp 53) (.tmp 54) 46 rfl 3 51 (KeyOK.int .i64) Try.underlying46 Try.underlying3 (zero51 _) rfl (HM.out.alloc _) par rfl _ hv1.out _ hb1.out ?_))
       have HBn := Aside0.mk (below_alloc (below_alloc HB.out (.cells #[.int .i64 n1, .int .i64 n2] 51)) (.cells #[.int .i64 p1, .int .i64 p2] 51))
       have HMn := Aside0.mk ((HM.out.alloc (.cells #[.int .i64 n1, .int .i64 n2] 51)).alloc (.cells #[.int .i64 p1, .int .i64 p2] 51))
       have HNn := Aside0.mk (blk_alloc (blk_alloc HN.out (.cells #[.int .i64 n1, .int .i64 n2] 51)) (.cells #[.int .i64 p1, .int .i64 p2] 51))
       have HTn := Aside0.mk (blk_alloc (heap_alloc_new w2 (.cells #[.int .i64 n1, .int .i64 n2] 51)) (.cells #[.int .i64 p1, .int .i64 p2] 51))
       have HUn := Aside0.mk (show ((w2.alloc (.cells #[.int .i64 n1, .int .i64 n2] 51)).alloc (.cells #[.int .i64 p1, .int .i64 p2] 51)).heap[w2.heap.size + 1]? = some (.cells #[.int .i64 p1, .int .i64 p2] 51 (0, 0)) from by have h_ := heap_alloc_new (w2.alloc (.cells #[.int .i64 n1, .int .i64 n2] 51)) (.cells #[.int .i64 p1, .int .i64 p2] 51); simpa using h_)
       clear HB HM HN y0 hlt hne
       generalize (w2.alloc (.cells #[.int .i64 n1, .int .i64 n2] 51)).alloc (.cells #[.int .i64 p1, .int .i64 p2] 51) = W at HBn HMn HNn HTn HUn ⊢
       generalize w2.heap.size + 1 = u at HUn ⊢
       generalize w2.heap.size = t at HTn ⊢
       have HB := HBn
       have HM := HMn
       have HN := HNn
       have HT := HTn
       have HU := HUn
       clear HBn HMn HNn HTn HUn
       have y0 : W.cell? ⟨g, 0, none⟩ = some (.int .i64 par) := blk_cell HN.out 0
       have hlt : g < W.heap.size := blk_lt HN.out
       have hne : g ≠ W.heap.size := Nat.ne_of_lt hlt
       refine (split_calls _ c0 l0 id W (Kd.C_below HR.out HB.out) HC0.out HL.out).mono ?_
       rintro e w5 ⟨vs, vg, rfl, hS, hGn, hb5⟩
       obtain ⟨st, hst_⟩ : ∃ st, st = (splitP l0 id).1 := ⟨_, rfl⟩
       obtain ⟨gn, hgn_⟩ : ∃ gn, gn = (splitP l0 id).2 := ⟨_, rfl⟩
       rw [← hst_] at hS
       rw [← hgn_] at hGn
       have HSt := Aside0.mk hst_
       have HGn_ := Aside0.mk hgn_
       have Hlen := Aside0.mk (splitP_len l0 id)
       rw [← hst_, ← hgn_] at Hlen
       clear hst_ hgn_
       obtain ⟨As, cs, rfl⟩ := Kd.R_slice hS
       obtain ⟨Ag, cg, rfl⟩ := Kd.R_slice hGn
       have HS := Aside0.mk (Kd.R_lower hS HB.out.size)
       have HGo := Aside0.mk (Kd.R_lower hGn HB.out.size)
       clear hS hGn
       have HBn := Aside0.mk (HB.out.trans (hb5.mono HB.out.size))
       have HMn := Aside0.mk (HM.out.below hb5)
       have HNn := Aside0.mk ((hb5.block g (blk_lt HN.out)).trans HN.out)
       have HTn := Aside0.mk ((hb5.block t (blk_lt HT.out)).trans HT.out)
       have HUn := Aside0.mk ((hb5.block u (blk_lt HU.out)).trans HU.out)
       clear HB HM HN HT HU y0 hlt hne
       have HB := HBn
       have HM := HMn
       have HN := HNn
       have HT := HTn
       have HU := HUn
       clear HBn HMn HNn HTn HUn
       have y0 : w5.cell? ⟨g, 0, none⟩ = some (.int .i64 par) := blk_cell HN.out 0
       have hlt : g < w5.heap.size := blk_lt HN.out
       have hne : g ≠ w5.heap.size := Nat.ne_of_lt hlt
       clear hb5
       by_cases hn0 : n1 = 0
       ·obtain ⟨cb, hcb⟩ : ∃ cb, decide (0 ≤ ixFind (fun n => decide (n.f0 = par)) gn) = cb := ⟨_, rfl⟩
        have hcf := Aside0.mk hcb
        clear hcb
        have hn0b : (n1 == 0) = true := by simpa using hn0
        have H2 := HP.out
        unfold moveP at H2
        rw [HD.out] at H2
        simp [Hid.out, Hpar.out, hbz, Hm0.out, Hm1.out, hn0] at H2
        obtain ⟨rfl, rfl⟩ := H2
        clear hn0 HP
        go_wp2_with (first | (go_at_call 50; (with_reducible refine (containsFunc_calls Ag cg gn g par _ (Kd.R_reads' HGo.out).2.2 (Kd.R_reads' HGo.out).2.1 HN.out cb hcf.out).mono ?_); rintro e w6 ⟨rfl, hb6⟩; have HBn := Aside0.mk (HB.out.trans (hb6.mono HB.out.size)); have HMn := Aside0.mk (HM.out.below hb6); have HNn := Aside0.mk ((hb6.block g (blk_lt HN.out)).trans HN.out); have HTn := Aside0.mk ((hb6.block t (blk_lt HT.out)).trans HT.out); have HUn := Aside0.mk ((hb6.block u (blk_lt HU.out)).trans HU.out); have HSn := Aside0.mk (Kd.R_below HS.out hb6); have HGon := Aside0.mk (Kd.R_below HGo.out hb6); clear HB HM HN HT HU HS HGo y0 hlt hne; have HB := HBn; have HM := HMn; have HN := HNn; have HT := HTn; have HU := HUn; have HS := HSn; have HGo := HGon; clear HBn HMn HNn HTn HUn HSn HGon; have y0 : w6.cell? ⟨g, 0, none⟩ = some (.int .i64 par) := blk_cell HN.out 0; have hlt : g < w6.heap.size := blk_lt HN.out; have hne : g ≠ w6.heap.size := Nat.ne_of_lt hlt; clear hb6; have zt0 : w6.cell? ⟨t, 0, none⟩ = some (.int .i64 n1) := blk_cell HT.out 0))
        go_ret2
        exact ⟨_, rfl, Kd.R_nil _ _ _ _ _, HB.out⟩
       ·have hn0b : (n1 == 0) = false := by simpa using hn0
        have Hn0 := Aside0.mk hn0
        clear hn0
        by_cases hcf_ : insideB gn par = true
        ·have hcf : Aside0 (decide (0 ≤ ixFind (fun n => decide (n.f0 = par)) gn) = true) := ⟨hcf_⟩
         rw [HGn_.out] at hcf_
         have H2 := HP.out
         unfold moveP at H2
         rw [HD.out] at H2
         simp [Hid.out, Hpar.out, hbz, Hm0.out, Hm1.out, Hn0.out, hcf_] at H2
         obtain ⟨rfl, rfl⟩ := H2
         clear hcf_ HP
         go_wp2_with (first | (go_at_call 50; (with_reducible refine (containsFunc_calls Ag cg gn g par _ (Kd.R_reads' HGo.out).2.2 (Kd.R_reads' HGo.out).2.1 HN.out true hcf.out).mono ?_); rintro e w6 ⟨rfl, hb6⟩; have HBn := Aside0.mk (HB.out.trans (hb6.mono HB.out.size)); have HMn := Aside0.mk (HM.out.below hb6); have HNn := Aside0.mk ((hb6.block g (blk_lt HN.out)).trans HN.out); have HTn := Aside0.mk ((hb6.block t (blk_lt HT.out)).trans HT.out); have HUn := Aside0.mk ((hb6.block u (blk_lt HU.out)).trans HU.out); have HSn := Aside0.mk (Kd.R_below HS.out hb6); have HGon := Aside0.mk (Kd.R_below HGo.out hb6); clear HB HM HN HT HU HS HGo y0 hlt hne; have HB := HBn; have HM := HMn; have HN := HNn; have HT := HTn; have HU := HUn; have HS := HSn; have HGo := HGon; clear HBn HMn HNn HTn HUn HSn HGon; have y0 : w6.cell? ⟨g, 0, none⟩ = some (.int .i64 par) := blk_cell HN.out 0; have hlt : g < w6.heap.size := blk_lt HN.out; have hne : g ≠ w6.heap.size := Nat.ne_of_lt hlt; clear hb6; have zt0 : w6.cell? ⟨t, 0, none⟩ = some (.int .i64 n1) := blk_cell HT.out 0))
         go_ret2
         exact ⟨_, rfl, Kd.R_nil _ _ _ _ _, HB.out⟩
        ·have hcf : Aside0 (decide (0 ≤ ixFind (fun n => decide (n.f0 = par)) gn) = false) := ⟨by simpa [insideB] using hcf_⟩
         have Hcf := Aside0.mk (show insideB gn par = false by simpa using hcf_)
         rw [HGn_.out] at Hcf
         clear hcf_
         go_wp2_with (first | (go_at_call 50; (with_reducible refine (containsFunc_calls Ag cg gn g par _ (Kd.R_reads' HGo.out).2.2 (Kd.R_reads' HGo.out).2.1 HN.out false hcf.out).mono ?_); rintro e w6 ⟨rfl, hb6⟩; have HBn := Aside0.mk (HB.out.trans (hb6.mono HB.out.size)); have HMn := Aside0.mk (HM.out.below hb6); have HNn := Aside0.mk ((hb6.block g (blk_lt HN.out)).trans HN.out); have HTn := Aside0.mk ((hb6.block t (blk_lt HT.out)).trans HT.out); have HUn := Aside0.mk ((hb6.block u (blk_lt HU.out)).trans HU.out); have HSn := Aside0.mk (Kd.R_below HS.out hb6); have HGon := Aside0.mk (Kd.R_below HGo.out hb6); clear HB HM HN HT HU HS HGo y0 hlt hne; have HB := HBn; have HM := HMn; have HN := HNn; have HT := HTn; have HU := HUn; have HS := HSn; have HGo := HGon; clear HBn HMn HNn HTn HUn HSn HGon; have y0 : w6.cell? ⟨g, 0, none⟩ = some (.int .i64 par) := blk_cell HN.out 0; have hlt : g < w6.heap.size := blk_lt HN.out; have hne : g ≠ w6.heap.size := Nat.ne_of_lt hlt; clear hb6; have zt0 : w6.cell? ⟨t, 0, none⟩ = some (.int .i64 n1) := blk_cell HT.out 0))
         obtain ⟨V, rfl⟩ : ∃ V0 : World, V0 = w6 := ⟨_, rfl⟩
         have zt0 : V.cell? ⟨t, 0, none⟩ = some (.int .i64 n1) := blk_cell HT.out 0
         have zu0 : V.cell? ⟨u, 0, none⟩ = some (.int .i64 p1) := blk_cell HU.out 0
         have htlt := blk_lt HT.out
         have hult := blk_lt HU.out
         obtain ⟨ad, e2, _, _, zk, _, _⟩ := at_T24 (Kd.C_below HR.out HB.out) n1 hn1a hn1b
         obtain ⟨ad2, e3, _, _, zm, _, _⟩ := at_T24 (Kd.C_below HR.out HB.out) p1 hp1a hp1b
         subst e2
         obtain rfl : ad = ad2 := by injection e3
         clear e3
         obtain ⟨kk, hkk⟩ : ∃ kk, kk = (rd_T24 l0 n1).f2 := ⟨_, rfl⟩
         obtain ⟨km, hkm⟩ : ∃ km, km = (rd_T24 l0 p1).f2 := ⟨_, rfl⟩
         rw [← hkk] at zk
         rw [← hkm] at zm
         have Hkk := Aside0.mk hkk
         have Hkm := Aside0.mk hkm
         clear hkk hkm
         have hn1c := eq_true hn1a
         have hn1d := eq_true hn1b
         have hp1c := eq_true hp1a
         have hp1d := eq_true hp1b
         have hn1e : decide (0 ≤ n1) = true := decide_eq_true hn1a
         have hn1f : decide (n1 < (l0.length : Int)) = true := decide_eq_true hn1b
         have hp1e : decide (0 ≤ p1) = true := decide_eq_true hp1a
         have hp1f : decide (p1 < (l0.length : Int)) = true := decide_eq_true hp1b
         by_cases hs : standsB kk km = true
         ·have hst : Aside0 (tree_stands.f kk km = some true) := ⟨by rw [stands_f, hs]⟩
          have hsf : Aside0 (standsB (rd_T24 l0 n1).f2 (rd_T24 l0 p1).f2 = true) := ⟨by rw [← Hkk.out, ← Hkm.out]; exact hs⟩
          clear hs
          refine start_ (n := 14) (S := fun w' => w'.cell? ⟨t, 0, none⟩ = some (.int .i64 n1) ∧ w'.cell? ⟨u, 0, none⟩ = some (.int .i64 p1) ∧ w'.cell? ⟨(ad.add (n1.toNat * 5)).block, (ad.add (n1.toNat * 5)).off + 2, none⟩ = some (.int .i64 kk) ∧ w'.cell? ⟨(ad.add (p1.toNat * 5)).block, (ad.add (p1.toNat * 5)).off + 2, none⟩ = some (.int .i64 km)) (ds := []) #[false, false, false, false, false, false, false, false, false, false, false, false, false, false] (by kernel_rfl) rfl rfl ⟨(((below_drew1 (Below.refl V.heap.size V)).cell (p := ⟨t, 0, none⟩) htlt).trans zt0), (((below_drew1 (Below.refl V.heap.size V)).cell (p := ⟨u, 0, none⟩) hult).trans zu0), (((below_drew1 (Below.refl V.heap.size V)).cell (p := ⟨(ad.add (n1.toNat * 5)).block, (ad.add (n1.toNat * 5)).off + 2, none⟩) (World.block_lt_of_cell? V _ zk)).trans zk), (((below_drew1 (Below.refl V.heap.size V)).cell (p := ⟨(ad.add (p1.toNat * 5)).block, (ad.add (p1.toNat * 5)).off + 2, none⟩) (World.block_lt_of_cell? V _ zm)).trans zm)⟩ (fun hHeld => ?_)
          refine with_tabW move_r.tab12 move_r.bits12 (fun HT_ HW_ => ?_)
          refine pz_ 0 (some 96) ?_
          refine pz_ 1 (some 97) ?_
          refine pz_ 6 (some 102) ?_
          refine pz_ 7 (some 103) ?_
          refine tz_ 2 (some 98) hHeld ?_
          refine pz_ 3 (some 99) ?_
          refine pz_ 4 (some 100) ?_
          refine tz_ 5 (some 101) hHeld ?_
          refine tz_ 8 (some 104) hHeld ?_
          refine pz_ 9 (some 105) ?_
          refine pz_ 10 (some 106) ?_
          refine tz_ 11 (some 107) hHeld ?_
          refine oz_ 12 (some 108) (fun K hK => ?_)
          refine goes_ Try.func44 (by kernel_rfl) rfl #[.int .i64 kk, .int .i64 km] (by rfl) rfl rfl z26_ ?_
          with_reducible refine (tree_stands.calls kk km true _ hst.out).mono ?_
          rintro e w9 ⟨rfl, hds⟩
          refine ⟨_, rfl, ?_⟩
          have hb9 : Below V.heap.size V w9 := (below_drew1 (Below.refl _ V)).trans hds.below
          refine hK.out _ _ ⟨((hb9.cell (p := ⟨t, 0, none⟩) htlt).trans zt0), ((hb9.cell (p := ⟨u, 0, none⟩) hult).trans zu0), ((hb9.cell (p := ⟨(ad.add (n1.toNat * 5)).block, (ad.add (n1.toNat * 5)).off + 2, none⟩) (World.block_lt_of_cell? V _ zk)).trans zk), ((hb9.cell (p := ⟨(ad.add (p1.toNat * 5)).block, (ad.add (p1.toNat * 5)).off + 2, none⟩) (World.block_lt_of_cell? V _ zm)).trans zm)⟩ (fun hHeld => ?_)
          clear hK K
          refine norm_ (a' := ?_) ?_ ?_
          rotate_left
          ·show Act.put _ (some 108) _ = _
           simp only [Act.put, List.setIfInBounds_toArray, List.set_cons_zero, List.set_cons_succ, i64_w, i32_w]
           rfl
          refine pz_ 13 (some 109) ?_
          refine done_ (done_of HT_.out (by kernel_rfl)) ?_

          have HBn := Aside0.mk (HB.out.trans (hb9.mono HB.out.size))
          have HMn := Aside0.mk (HM.out.below hb9)
          have HNn := Aside0.mk ((hb9.block g (blk_lt HN.out)).trans HN.out)
          have HTn := Aside0.mk ((hb9.block t (blk_lt HT.out)).trans HT.out)
          have HUn := Aside0.mk ((hb9.block u (blk_lt HU.out)).trans HU.out)
          have HSn := Aside0.mk (Kd.R_below HS.out hb9)
          have HGon := Aside0.mk (Kd.R_below HGo.out hb9)
          clear HB HM HN HT HU HS HGo y0 hlt hne
          have HB := HBn
          have HM := HMn
          have HN := HNn
          have HT := HTn
          have HU := HUn
          have HS := HSn
          have HGo := HGon
          clear HBn HMn HNn HTn HUn HSn HGon
          have y0 : w9.cell? ⟨g, 0, none⟩ = some (.int .i64 par) := blk_cell HN.out 0
          have hlt : g < w9.heap.size := blk_lt HN.out
          have hne : g ≠ w9.heap.size := Nat.ne_of_lt hlt
          clear zt0 zu0 zk zm htlt hult hb9 hn1c hn1d hp1c hp1d
          have H2 := HP.out
          unfold moveP at H2
          rw [HD.out] at H2
          simp [Hid.out, Hpar.out, hbz, Hm0.out, Hm1.out, Hn0.out, Hcf.out, hsf.out] at H2
          rw [← HSt.out, ← HGn_.out] at H2
          cases hgc : gn with
          | nil => rw [hgc] at H2; simp at H2
          | cons x r =>
           subst hgc
           simp at H2
           obtain ⟨q, hput, hq⟩ := H2
           have HPut := Aside0.mk hput
           clear hput HP
           have hgf := Kd.R_form HGo.out (by simp)
           obtain ⟨go_, cg2, eg, hgb, hgl, _⟩ := hgf
           injection eg with eg1 eg2 eg3
           subst eg1 eg3
           clear eg2
           have hlen1 : (0 : Int) < ((x :: r).length : Int) := by simp <;> omega
           obtain ⟨adx, ex, xx0, xx1, xx2, xx3, xx4⟩ := at_T24 (Kd.R_reads' HGo.out).2.2 0 (by omega) (by simp <;> omega)
           obtain rfl : (⟨go_, 0, none⟩ : Addr) = adx := by injection ex
           clear ex
           have e0 : (⟨go_, 0, none⟩ : Addr).add (Int.toNat 0 * 5) = ⟨go_, 0, none⟩ := rfl
           rw [e0] at xx0 xx1 xx2 xx3 xx4
           clear e0
           have ex0 : rd_T24 (x :: r) 0 = x := rfl
           rw [ex0] at xx0 xx1 xx2 xx3 xx4
           clear ex0
           have hcells : ∀ j v, [.int .i64 x.f0, .int .i64 x.f1, .int .i64 x.f2, .int .i64 x.f3, .string x.f4][j]? = some v → w9.cell? ⟨go_, j, none⟩ = some v := by
            intro j v hj
            match j, hj with
            | 0, hj => obtain rfl := Option.some.inj hj; exact xx0
            | 1, hj => obtain rfl := Option.some.inj hj; exact xx1
            | 2, hj => obtain rfl := Option.some.inj hj; exact xx2
            | 3, hj => obtain rfl := Option.some.inj hj; exact xx3
            | 4, hj => obtain rfl := Option.some.inj hj; exact xx4
            | j + 5, hj => simp at hj
           have HCl := Aside0.mk hcells
           clear hcells xx0 xx2 xx3 xx4
           have hsz3 : (Try.prog.info? 3).map (·.size) = some 1 := by kernel_rfl
           have HSz := Aside0.mk hsz3
           clear hsz3
           go_wp2_with (first | (refine Kd.R_store k24 (w0 := w) w.heap.size rfl rfl 3 (.tmp 113) (.tmp 111) rfl 24 (g := go_) (n := (x :: r).length) (cap := cg) (o' := 1) 0 1 (x :: r) (reparent x par) (.int .i64 par) [.int .i64 par] [.int .i64 x.f0, .int .i64 x.f1, .int .i64 x.f2, .int .i64 x.f3, .string x.f4] _ (fun _ => False) rfl rfl rfl rfl HSz.out (by simp [Value.oneCell']) HGo.out (by omega) hlen1 rfl (fun j v hj => by have h_ := HCl.out j v hj; simpa using h_) (show 1 + 1 ≤ 5 by omega) (k24_mkM _ _ _ (reparent x par)) (fun _ hk => hk.elim) HB.out ?_; intro w10 hG10 hB10 hg10))
           have HGo2 := Aside0.mk hG10
           have HS2 := Aside0.mk (Kd.R_grown1 HS.out rfl hg10 (fun e_ => HGo.out.1 go_ rfl (by rw [← e_])))
           have HB2 := Aside0.mk hB10
           clear hG10 hB10 hg10
           go_wp2_with (first | (go_at_call 45; (refine (put_calls As cs st _ cg (reparent x par :: r) _ q w10 (Kd.R_reads' HS2.out).2.2 (Kd.R_reads' HS2.out).2.1 (Kd.R_reads' HGo2.out).2.2 (Kd.R_reads' HGo2.out).2.1 (by have := HL.out; have := Hlen.out; simp at this ⊢; omega) HPut.out).mono ?_); rintro e w11 ⟨v11, rfl, hR11, hb11⟩; obtain ⟨A11, c11, rfl⟩ := Kd.R_slice hR11; have HB11 := Aside0.mk (HB2.out.trans (hb11.mono HB2.out.size)); have HR11 := Aside0.mk (Kd.R_lower hR11 HB2.out.size); clear hR11 hb11))
           cases hvq : (placesP q).isSome with
           | true =>
            have hv : tree_Valid.f q = some true := by unfold tree_Valid.f; rw [hvq]
            have HV := Aside0.mk hv
            rw [hvq] at hq
            simp at hq
            obtain ⟨rfl, rfl⟩ := hq
            clear hv hvq
            go_wp2_with (first | (go_at_call 13; (with_reducible refine (tree_Valid.calls A11 c11 q true _ (Kd.R_reads' HR11.out).2.2 (Kd.R_reads' HR11.out).2.1 HV.out).mono ?_); rintro e w12 ⟨rfl, hb12⟩))
            go_ret2
            exact ⟨_, rfl, Kd.R_below HR11.out hb12, HB11.out.trans (hb12.mono HB11.out.size)⟩
           | false =>
            have hv : tree_Valid.f q = some false := by unfold tree_Valid.f; rw [hvq]
            have HV := Aside0.mk hv
            rw [hvq] at hq
            simp at hq
            obtain ⟨rfl, rfl⟩ := hq
            clear hv hvq
            go_wp2_with (first | (go_at_call 13; (with_reducible refine (tree_Valid.calls A11 c11 q false _ (Kd.R_reads' HR11.out).2.2 (Kd.R_reads' HR11.out).2.1 HV.out).mono ?_); rintro e w12 ⟨rfl, hb12⟩))
            go_ret2
            exact ⟨_, rfl, Kd.R_nil _ _ _ _ _, HB11.out.trans (hb12.mono HB11.out.size)⟩
         ·have hst : Aside0 (tree_stands.f kk km = some false) := ⟨by rw [stands_f]; simpa using hs⟩
          have hsf : Aside0 (standsB (rd_T24 l0 n1).f2 (rd_T24 l0 p1).f2 = false) := ⟨by rw [← Hkk.out, ← Hkm.out]; simpa using hs⟩
          clear hs
          have H2 := HP.out
          unfold moveP at H2
          rw [HD.out] at H2
          simp [Hid.out, Hpar.out, hbz, Hm0.out, Hm1.out, Hn0.out, Hcf.out, hsf.out] at H2
          obtain ⟨rfl, rfl⟩ := H2
          clear HP
          refine start_ (n := 14) (S := fun w' => w'.cell? ⟨t, 0, none⟩ = some (.int .i64 n1) ∧ w'.cell? ⟨u, 0, none⟩ = some (.int .i64 p1) ∧ w'.cell? ⟨(ad.add (n1.toNat * 5)).block, (ad.add (n1.toNat * 5)).off + 2, none⟩ = some (.int .i64 kk) ∧ w'.cell? ⟨(ad.add (p1.toNat * 5)).block, (ad.add (p1.toNat * 5)).off + 2, none⟩ = some (.int .i64 km)) (ds := []) #[false, false, false, false, false, false, false, false, false, false, false, false, false, false] (by kernel_rfl) rfl rfl ⟨(((below_drew1 (Below.refl V.heap.size V)).cell (p := ⟨t, 0, none⟩) htlt).trans zt0), (((below_drew1 (Below.refl V.heap.size V)).cell (p := ⟨u, 0, none⟩) hult).trans zu0), (((below_drew1 (Below.refl V.heap.size V)).cell (p := ⟨(ad.add (n1.toNat * 5)).block, (ad.add (n1.toNat * 5)).off + 2, none⟩) (World.block_lt_of_cell? V _ zk)).trans zk), (((below_drew1 (Below.refl V.heap.size V)).cell (p := ⟨(ad.add (p1.toNat * 5)).block, (ad.add (p1.toNat * 5)).off + 2, none⟩) (World.block_lt_of_cell? V _ zm)).trans zm)⟩ (fun hHeld => ?_)
          refine with_tabW move_r.tab12 move_r.bits12 (fun HT_ HW_ => ?_)
          refine pz_ 0 (some 96) ?_
          refine pz_ 1 (some 97) ?_
          refine pz_ 6 (some 102) ?_
          refine pz_ 7 (some 103) ?_
          refine tz_ 2 (some 98) hHeld ?_
          refine pz_ 3 (some 99) ?_
          refine pz_ 4 (some 100) ?_
          refine tz_ 5 (some 101) hHeld ?_
          refine tz_ 8 (some 104) hHeld ?_
          refine pz_ 9 (some 105) ?_
          refine pz_ 10 (some 106) ?_
          refine tz_ 11 (some 107) hHeld ?_
          refine oz_ 12 (some 108) (fun K hK => ?_)
          refine goes_ Try.func44 (by kernel_rfl) rfl #[.int .i64 kk, .int .i64 km] (by rfl) rfl rfl z26_ ?_
          with_reducible refine (tree_stands.calls kk km false _ hst.out).mono ?_
          rintro e w9 ⟨rfl, hds⟩
          refine ⟨_, rfl, ?_⟩
          have hb9 : Below V.heap.size V w9 := (below_drew1 (Below.refl _ V)).trans hds.below
          refine hK.out _ _ ⟨((hb9.cell (p := ⟨t, 0, none⟩) htlt).trans zt0), ((hb9.cell (p := ⟨u, 0, none⟩) hult).trans zu0), ((hb9.cell (p := ⟨(ad.add (n1.toNat * 5)).block, (ad.add (n1.toNat * 5)).off + 2, none⟩) (World.block_lt_of_cell? V _ zk)).trans zk), ((hb9.cell (p := ⟨(ad.add (p1.toNat * 5)).block, (ad.add (p1.toNat * 5)).off + 2, none⟩) (World.block_lt_of_cell? V _ zm)).trans zm)⟩ (fun hHeld => ?_)
          clear hK K
          refine norm_ (a' := ?_) ?_ ?_
          rotate_left
          ·show Act.put _ (some 108) _ = _
           simp only [Act.put, List.setIfInBounds_toArray, List.set_cons_zero, List.set_cons_succ, i64_w, i32_w]
           rfl
          refine pz_ 13 (some 109) ?_
          refine done_ (done_of HT_.out (by kernel_rfl)) ?_

          have HBn := Aside0.mk (HB.out.trans (hb9.mono HB.out.size))
          have HMn := Aside0.mk (HM.out.below hb9)
          have HNn := Aside0.mk ((hb9.block g (blk_lt HN.out)).trans HN.out)
          have HTn := Aside0.mk ((hb9.block t (blk_lt HT.out)).trans HT.out)
          have HUn := Aside0.mk ((hb9.block u (blk_lt HU.out)).trans HU.out)
          have HSn := Aside0.mk (Kd.R_below HS.out hb9)
          have HGon := Aside0.mk (Kd.R_below HGo.out hb9)
          clear HB HM HN HT HU HS HGo y0 hlt hne
          have HB := HBn
          have HM := HMn
          have HN := HNn
          have HT := HTn
          have HU := HUn
          have HS := HSn
          have HGo := HGon
          clear HBn HMn HNn HTn HUn HSn HGon
          have y0 : w9.cell? ⟨g, 0, none⟩ = some (.int .i64 par) := blk_cell HN.out 0
          have hlt : g < w9.heap.size := blk_lt HN.out
          have hne : g ≠ w9.heap.size := Nat.ne_of_lt hlt
          clear zt0 zu0 zk zm htlt hult hb9
          go_wp2
          go_ret2
          exact ⟨_, rfl, Kd.R_nil _ _ _ _ _, HB.out⟩
    ·have hbzb : (b != 0) = true := by simpa using hbz
     by_cases hidb : idB b = true
     ·have hbid : Aside0 (tree_isID.f b = some true) := ⟨by rw [idB_f, hidb]⟩
      cases hm0 : mlook D id with
      | none =>
       have hb1x : ∃ q1 q2 qb, ((mlook D par).map encP).getD (.agg #[.int .i64 0, .int .i64 0]) = .agg #[.int .i64 q1, .int .i64 q2] ∧ (mlook D par).isSome = qb := by cases mlook D par <;> exact ⟨_, _, _, rfl, rfl⟩
       obtain ⟨q1, q2, qb, hq1, hq2⟩ := hb1x
       have hv1 := Aside0.mk hq1
       have hb1 := Aside0.mk hq2
       clear hq1 hq2
       have hv0 : Aside0 (((mlook D id).map encP).getD (.agg #[.int .i64 0, .int .i64 0]) = .agg #[.int .i64 0, .int .i64 0]) := ⟨by rw [hm0]; rfl⟩
       have hb0 : Aside0 ((mlook D id).isSome = false) := ⟨by rw [hm0]; rfl⟩
       have H2 := HP.out
       unfold moveP at H2
       rw [HD.out] at H2
       simp [Hid.out, Hpar.out, hbz, hidb, hm0] at H2
       obtain ⟨rfl, rfl⟩ := H2
       clear hm0 HP
       go_wp2_with (first | (go_at_call_of 32 (Value.int .i64 id); (with_reducible refine (tree_isID.calls id true _ hid.out).mono ?_); rintro e w2 ⟨rfl, hd⟩; have HBn := Aside0.mk (HB.out.trans (hd.below.mono HB.out.size)); have HMn := Aside0.mk (HM.out.below hd.below); have HNn := Aside0.mk ((hd.below.block g (blk_lt HN.out)).trans HN.out); clear HB HM HN y0 hlt hne; have HB := HBn; have HM := HMn; have HN := HNn; clear HBn HMn HNn; have y0 : w2.cell? ⟨g, 0, none⟩ = some (.int .i64 par) := blk_cell HN.out 0; have hlt : g < w2.heap.size := blk_lt HN.out; have hne : g ≠ w2.heap.size := Nat.ne_of_lt hlt; clear hd) | (go_at_call_of 32 (Value.int .i64 par); (with_reducible refine (tree_isID.calls par true _ hpar.out).mono ?_); rintro e w2 ⟨rfl, hd⟩; have HBn := Aside0.mk (HB.out.trans (hd.below.mono HB.out.size)); have HMn := Aside0.mk (HM.out.below hd.below); have HNn := Aside0.mk ((hd.below.block g (blk_lt HN.out)).trans HN.out); clear HB HM HN y0 hlt hne; have HB := HBn; have HM := HMn; have HN := HNn; clear HBn HMn HNn; have y0 : w2.cell? ⟨g, 0, none⟩ = some (.int .i64 par) := blk_cell HN.out 0; have hlt : g < w2.heap.size := blk_lt HN.out; have hne : g ≠ w2.heap.size := Nat.ne_of_lt hlt; clear hd) | (go_at_call_of 32 (Value.int .i64 b); (with_reducible refine (tree_isID.calls b true _ hbid.out).mono ?_); rintro e w2 ⟨rfl, hd⟩; have HBn := Aside0.mk (HB.out.trans (hd.below.mono HB.out.size)); have HMn := Aside0.mk (HM.out.below hd.below); have HNn := Aside0.mk ((hd.below.block g (blk_lt HN.out)).trans HN.out); clear HB HM HN y0 hlt hne; have HB := HBn; have HM := HMn; have HN := HNn; clear HBn HMn HNn; have y0 : w2.cell? ⟨g, 0, none⟩ = some (.int .i64 par) := blk_cell HN.out 0; have hlt : g < w2.heap.size := blk_lt HN.out; have hne : g ≠ w2.heap.size := Nat.ne_of_lt hlt; clear hd) | (at_lookup; refine wpList_lookup_ok _ rfl (.tmp 47) (.tmp 48) 46 rfl 3 51 (KeyOK.int .i64) Try.underlying46 Try.underlying3 (zero51 _) rfl HM.out id rfl _ hv0.out _ hb0.out ?_) | (at_lookup; refine wpList_lookup_ok _ rfl (.tmp 53) (.tmp 54) 46 rfl 3 51 (KeyOK.int .i64) Try.underlying46 Try.underlying3 (zero51 _) rfl (HM.out.alloc _) par rfl _ hv1.out _ hb1.out ?_))
       go_ret2
       exact ⟨_, rfl, Kd.R_nil _ _ _ _ _, below_alloc (below_alloc HB.out _) _⟩
      | some pn =>
       obtain ⟨n1, n2⟩ := pn
       have hv0 : Aside0 (((mlook D id).map encP).getD (.agg #[.int .i64 0, .int .i64 0]) = .agg #[.int .i64 n1, .int .i64 n2]) := ⟨by rw [hm0]; rfl⟩
       have hb0 : Aside0 ((mlook D id).isSome = true) := ⟨by rw [hm0]; rfl⟩
       have Hm0 := Aside0.mk hm0
       have hI0 := HI.out _ _ hm0
       simp only at hI0
       clear hm0
       cases hm1 : mlook D par with
       | none =>
        have hv1 : Aside0 (((mlook D par).map encP).getD (.agg #[.int .i64 0, .int .i64 0]) = .agg #[.int .i64 0, .int .i64 0]) := ⟨by rw [hm1]; rfl⟩
        have hb1 : Aside0 ((mlook D par).isSome = false) := ⟨by rw [hm1]; rfl⟩
        have H2 := HP.out
        unfold moveP at H2
        rw [HD.out] at H2
        simp [Hid.out, Hpar.out, hbz, hidb, Hm0.out, hm1] at H2
        obtain ⟨rfl, rfl⟩ := H2
        clear hm1 HP
        go_wp2_with (first | (go_at_call_of 32 (Value.int .i64 id); (with_reducible refine (tree_isID.calls id true _ hid.out).mono ?_); rintro e w2 ⟨rfl, hd⟩; have HBn := Aside0.mk (HB.out.trans (hd.below.mono HB.out.size)); have HMn := Aside0.mk (HM.out.below hd.below); have HNn := Aside0.mk ((hd.below.block g (blk_lt HN.out)).trans HN.out); clear HB HM HN y0 hlt hne; have HB := HBn; have HM := HMn; have HN := HNn; clear HBn HMn HNn; have y0 : w2.cell? ⟨g, 0, none⟩ = some (.int .i64 par) := blk_cell HN.out 0; have hlt : g < w2.heap.size := blk_lt HN.out; have hne : g ≠ w2.heap.size := Nat.ne_of_lt hlt; clear hd) | (go_at_call_of 32 (Value.int .i64 par); (with_reducible refine (tree_isID.calls par true _ hpar.out).mono ?_); rintro e w2 ⟨rfl, hd⟩; have HBn := Aside0.mk (HB.out.trans (hd.below.mono HB.out.size)); have HMn := Aside0.mk (HM.out.below hd.below); have HNn := Aside0.mk ((hd.below.block g (blk_lt HN.out)).trans HN.out); clear HB HM HN y0 hlt hne; have HB := HBn; have HM := HMn; have HN := HNn; clear HBn HMn HNn; have y0 : w2.cell? ⟨g, 0, none⟩ = some (.int .i64 par) := blk_cell HN.out 0; have hlt : g < w2.heap.size := blk_lt HN.out; have hne : g ≠ w2.heap.size := Nat.ne_of_lt hlt; clear hd) | (go_at_call_of 32 (Value.int .i64 b); (with_reducible refine (tree_isID.calls b true _ hbid.out).mono ?_); rintro e w2 ⟨rfl, hd⟩; have HBn := Aside0.mk (HB.out.trans (hd.below.mono HB.out.size)); have HMn := Aside0.mk (HM.out.below hd.below); have HNn := Aside0.mk ((hd.below.block g (blk_lt HN.out)).trans HN.out); clear HB HM HN y0 hlt hne; have HB := HBn; have HM := HMn; have HN := HNn; clear HBn HMn HNn; have y0 : w2.cell? ⟨g, 0, none⟩ = some (.int .i64 par) := blk_cell HN.out 0; have hlt : g < w2.heap.size := blk_lt HN.out; have hne : g ≠ w2.heap.size := Nat.ne_of_lt hlt; clear hd) | (at_lookup; refine wpList_lookup_ok _ rfl (.tmp 47) (.tmp 48) 46 rfl 3 51 (KeyOK.int .i64) Try.underlying46 Try.underlying3 (zero51 _) rfl HM.out id rfl _ hv0.out _ hb0.out ?_) | (at_lookup; refine wpList_lookup_ok _ rfl (.tmp 53) (.tmp 54) 46 rfl 3 51 (KeyOK.int .i64) Try.underlying46 Try.underlying3 (zero51 _) rfl (HM.out.alloc _) par rfl _ hv1.out _ hb1.out ?_))
        go_ret2
        exact ⟨_, rfl, Kd.R_nil _ _ _ _ _, below_alloc (below_alloc HB.out _) _⟩
       | some pp =>
        obtain ⟨p1, p2⟩ := pp
        have hv1 : Aside0 (((mlook D par).map encP).getD (.agg #[.int .i64 0, .int .i64 0]) = .agg #[.int .i64 p1, .int .i64 p2]) := ⟨by rw [hm1]; rfl⟩
        have hb1 : Aside0 ((mlook D par).isSome = true) := ⟨by rw [hm1]; rfl⟩
        have Hm1 := Aside0.mk hm1
        have hI1 := HI.out _ _ hm1
        simp only at hI1
        clear hm1
        have hn1a : 0 ≤ n1 := hI0.1
        have hn1b : n1 < (l0.length : Int) := hI0.2.1
        have hp1a : 0 ≤ p1 := hI1.1
        have hp1b : p1 < (l0.length : Int) := hI1.2.1
        clear hI0 hI1
        go_wp2_with (first | (go_at_call_of 32 (Value.int .i64 id); (with_reducible refine (tree_isID.calls id true _ hid.out).mono ?_); rintro e w2 ⟨rfl, hd⟩; have HBn := Aside0.mk (HB.out.trans (hd.below.mono HB.out.size)); have HMn := Aside0.mk (HM.out.below hd.below); have HNn := Aside0.mk ((hd.below.block g (blk_lt HN.out)).trans HN.out); clear HB HM HN y0 hlt hne; have HB := HBn; have HM := HMn; have HN := HNn; clear HBn HMn HNn; have y0 : w2.cell? ⟨g, 0, none⟩ = some (.int .i64 par) := blk_cell HN.out 0; have hlt : g < w2.heap.size := blk_lt HN.out; have hne : g ≠ w2.heap.size := Nat.ne_of_lt hlt; clear hd) | (go_at_call_of 32 (Value.int .i64 par); (with_reducible refine (tree_isID.calls par true _ hpar.out).mono ?_); rintro e w2 ⟨rfl, hd⟩; have HBn := Aside0.mk (HB.out.trans (hd.below.mono HB.out.size)); have HMn := Aside0.mk (HM.out.below hd.below); have HNn := Aside0.mk ((hd.below.block g (blk_lt HN.out)).trans HN.out); clear HB HM HN y0 hlt hne; have HB := HBn; have HM := HMn; have HN := HNn; clear HBn HMn HNn; have y0 : w2.cell? ⟨g, 0, none⟩ = some (.int .i64 par) := blk_cell HN.out 0; have hlt : g < w2.heap.size := blk_lt HN.out; have hne : g ≠ w2.heap.size := Nat.ne_of_lt hlt; clear hd) | (go_at_call_of 32 (Value.int .i64 b); (with_reducible refine (tree_isID.calls b true _ hbid.out).mono ?_); rintro e w2 ⟨rfl, hd⟩; have HBn := Aside0.mk (HB.out.trans (hd.below.mono HB.out.size)); have HMn := Aside0.mk (HM.out.below hd.below); have HNn := Aside0.mk ((hd.below.block g (blk_lt HN.out)).trans HN.out); clear HB HM HN y0 hlt hne; have HB := HBn; have HM := HMn; have HN := HNn; clear HBn HMn HNn; have y0 : w2.cell? ⟨g, 0, none⟩ = some (.int .i64 par) := blk_cell HN.out 0; have hlt : g < w2.heap.size := blk_lt HN.out; have hne : g ≠ w2.heap.size := Nat.ne_of_lt hlt; clear hd) | (at_lookup; refine wpList_lookup_ok _ rfl (.tmp 47) (.tmp 48) 46 rfl 3 51 (KeyOK.int .i64) Try.underlying46 Try.underlying3 (zero51 _) rfl HM.out id rfl _ hv0.out _ hb0.out ?_) | (at_lookup; refine wpList_lookup_ok _ rfl (.tmp 53) (.tmp 54) 46 rfl 3 51 (KeyOK.int .i64) Try.underlying46 Try.underlying3 (zero51 _) rfl (HM.out.alloc _) par rfl _ hv1.out _ hb1.out ?_))
        have HBn := Aside0.mk (below_alloc (below_alloc HB.out (.cells #[.int .i64 n1, .int .i64 n2] 51)) (.cells #[.int .i64 p1, .int .i64 p2] 51))
        have HMn := Aside0.mk ((HM.out.alloc (.cells #[.int .i64 n1, .int .i64 n2] 51)).alloc (.cells #[.int .i64 p1, .int .i64 p2] 51))
        have HNn := Aside0.mk (blk_alloc (blk_alloc HN.out (.cells #[.int .i64 n1, .int .i64 n2] 51)) (.cells #[.int .i64 p1, .int .i64 p2] 51))
        have HTn := Aside0.mk (blk_alloc (heap_alloc_new w2 (.cells #[.int .i64 n1, .int .i64 n2] 51)) (.cells #[.int .i64 p1, .int .i64 p2] 51))
        have HUn := Aside0.mk (show ((w2.alloc (.cells #[.int .i64 n1, .int .i64 n2] 51)).alloc (.cells #[.int .i64 p1, .int .i64 p2] 51)).heap[w2.heap.size + 1]? = some (.cells #[.int .i64 p1, .int .i64 p2] 51 (0, 0)) from by have h_ := heap_alloc_new (w2.alloc (.cells #[.int .i64 n1, .int .i64 n2] 51)) (.cells #[.int .i64 p1, .int .i64 p2] 51); simpa using h_)
        clear HB HM HN y0 hlt hne
        generalize (w2.alloc (.cells #[.int .i64 n1, .int .i64 n2] 51)).alloc (.cells #[.int .i64 p1, .int .i64 p2] 51) = W at HBn HMn HNn HTn HUn ⊢
        generalize w2.heap.size + 1 = u at HUn ⊢
        generalize w2.heap.size = t at HTn ⊢
        have HB := HBn
        have HM := HMn
        have HN := HNn
        have HT := HTn
        have HU := HUn
        clear HBn HMn HNn HTn HUn
        have y0 : W.cell? ⟨g, 0, none⟩ = some (.int .i64 par) := blk_cell HN.out 0
        have hlt : g < W.heap.size := blk_lt HN.out
        have hne : g ≠ W.heap.size := Nat.ne_of_lt hlt
        refine (split_calls _ c0 l0 id W (Kd.C_below HR.out HB.out) HC0.out HL.out).mono ?_
        rintro e w5 ⟨vs, vg, rfl, hS, hGn, hb5⟩
        obtain ⟨st, hst_⟩ : ∃ st, st = (splitP l0 id).1 := ⟨_, rfl⟩
        obtain ⟨gn, hgn_⟩ : ∃ gn, gn = (splitP l0 id).2 := ⟨_, rfl⟩
        rw [← hst_] at hS
        rw [← hgn_] at hGn
        have HSt := Aside0.mk hst_
        have HGn_ := Aside0.mk hgn_
        have Hlen := Aside0.mk (splitP_len l0 id)
        rw [← hst_, ← hgn_] at Hlen
        clear hst_ hgn_
        obtain ⟨As, cs, rfl⟩ := Kd.R_slice hS
        obtain ⟨Ag, cg, rfl⟩ := Kd.R_slice hGn
        have HS := Aside0.mk (Kd.R_lower hS HB.out.size)
        have HGo := Aside0.mk (Kd.R_lower hGn HB.out.size)
        clear hS hGn
        have HBn := Aside0.mk (HB.out.trans (hb5.mono HB.out.size))
        have HMn := Aside0.mk (HM.out.below hb5)
        have HNn := Aside0.mk ((hb5.block g (blk_lt HN.out)).trans HN.out)
        have HTn := Aside0.mk ((hb5.block t (blk_lt HT.out)).trans HT.out)
        have HUn := Aside0.mk ((hb5.block u (blk_lt HU.out)).trans HU.out)
        clear HB HM HN HT HU y0 hlt hne
        have HB := HBn
        have HM := HMn
        have HN := HNn
        have HT := HTn
        have HU := HUn
        clear HBn HMn HNn HTn HUn
        have y0 : w5.cell? ⟨g, 0, none⟩ = some (.int .i64 par) := blk_cell HN.out 0
        have hlt : g < w5.heap.size := blk_lt HN.out
        have hne : g ≠ w5.heap.size := Nat.ne_of_lt hlt
        clear hb5
        by_cases hn0 : n1 = 0
        ·obtain ⟨cb, hcb⟩ : ∃ cb, decide (0 ≤ ixFind (fun n => decide (n.f0 = par)) gn) = cb := ⟨_, rfl⟩
         have hcf := Aside0.mk hcb
         clear hcb
         have hn0b : (n1 == 0) = true := by simpa using hn0
         have H2 := HP.out
         unfold moveP at H2
         rw [HD.out] at H2
         simp [Hid.out, Hpar.out, hbz, hidb, Hm0.out, Hm1.out, hn0] at H2
         obtain ⟨rfl, rfl⟩ := H2
         clear hn0 HP
         go_wp2_with (first | (go_at_call 50; (with_reducible refine (containsFunc_calls Ag cg gn g par _ (Kd.R_reads' HGo.out).2.2 (Kd.R_reads' HGo.out).2.1 HN.out cb hcf.out).mono ?_); rintro e w6 ⟨rfl, hb6⟩; have HBn := Aside0.mk (HB.out.trans (hb6.mono HB.out.size)); have HMn := Aside0.mk (HM.out.below hb6); have HNn := Aside0.mk ((hb6.block g (blk_lt HN.out)).trans HN.out); have HTn := Aside0.mk ((hb6.block t (blk_lt HT.out)).trans HT.out); have HUn := Aside0.mk ((hb6.block u (blk_lt HU.out)).trans HU.out); have HSn := Aside0.mk (Kd.R_below HS.out hb6); have HGon := Aside0.mk (Kd.R_below HGo.out hb6); clear HB HM HN HT HU HS HGo y0 hlt hne; have HB := HBn; have HM := HMn; have HN := HNn; have HT := HTn; have HU := HUn; have HS := HSn; have HGo := HGon; clear HBn HMn HNn HTn HUn HSn HGon; have y0 : w6.cell? ⟨g, 0, none⟩ = some (.int .i64 par) := blk_cell HN.out 0; have hlt : g < w6.heap.size := blk_lt HN.out; have hne : g ≠ w6.heap.size := Nat.ne_of_lt hlt; clear hb6; have zt0 : w6.cell? ⟨t, 0, none⟩ = some (.int .i64 n1) := blk_cell HT.out 0))
         go_ret2
         exact ⟨_, rfl, Kd.R_nil _ _ _ _ _, HB.out⟩
        ·have hn0b : (n1 == 0) = false := by simpa using hn0
         have Hn0 := Aside0.mk hn0
         clear hn0
         by_cases hcf_ : insideB gn par = true
         ·have hcf : Aside0 (decide (0 ≤ ixFind (fun n => decide (n.f0 = par)) gn) = true) := ⟨hcf_⟩
          rw [HGn_.out] at hcf_
          have H2 := HP.out
          unfold moveP at H2
          rw [HD.out] at H2
          simp [Hid.out, Hpar.out, hbz, hidb, Hm0.out, Hm1.out, Hn0.out, hcf_] at H2
          obtain ⟨rfl, rfl⟩ := H2
          clear hcf_ HP
          go_wp2_with (first | (go_at_call 50; (with_reducible refine (containsFunc_calls Ag cg gn g par _ (Kd.R_reads' HGo.out).2.2 (Kd.R_reads' HGo.out).2.1 HN.out true hcf.out).mono ?_); rintro e w6 ⟨rfl, hb6⟩; have HBn := Aside0.mk (HB.out.trans (hb6.mono HB.out.size)); have HMn := Aside0.mk (HM.out.below hb6); have HNn := Aside0.mk ((hb6.block g (blk_lt HN.out)).trans HN.out); have HTn := Aside0.mk ((hb6.block t (blk_lt HT.out)).trans HT.out); have HUn := Aside0.mk ((hb6.block u (blk_lt HU.out)).trans HU.out); have HSn := Aside0.mk (Kd.R_below HS.out hb6); have HGon := Aside0.mk (Kd.R_below HGo.out hb6); clear HB HM HN HT HU HS HGo y0 hlt hne; have HB := HBn; have HM := HMn; have HN := HNn; have HT := HTn; have HU := HUn; have HS := HSn; have HGo := HGon; clear HBn HMn HNn HTn HUn HSn HGon; have y0 : w6.cell? ⟨g, 0, none⟩ = some (.int .i64 par) := blk_cell HN.out 0; have hlt : g < w6.heap.size := blk_lt HN.out; have hne : g ≠ w6.heap.size := Nat.ne_of_lt hlt; clear hb6; have zt0 : w6.cell? ⟨t, 0, none⟩ = some (.int .i64 n1) := blk_cell HT.out 0))
          go_ret2
          exact ⟨_, rfl, Kd.R_nil _ _ _ _ _, HB.out⟩
         ·have hcf : Aside0 (decide (0 ≤ ixFind (fun n => decide (n.f0 = par)) gn) = false) := ⟨by simpa [insideB] using hcf_⟩
          have Hcf := Aside0.mk (show insideB gn par = false by simpa using hcf_)
          rw [HGn_.out] at Hcf
          clear hcf_
          by_cases hbi : b = id
          ·have hbib : (b == id) = true := by simpa using hbi
           have Hbi := Aside0.mk hbi
           have hidz : ¬ id = 0 := by rw [← hbi]; exact hbz
           have H2 := HP.out
           unfold moveP at H2
           rw [HD.out] at H2
           simp [Hid.out, Hpar.out, hbz, hidb, Hm0.out, Hm1.out, Hn0.out, Hcf.out, hbi, hidz] at H2
           obtain ⟨rfl, rfl⟩ := H2
           clear hbi hidz HP
           go_wp2_with (first | (go_at_call 50; (with_reducible refine (containsFunc_calls Ag cg gn g par _ (Kd.R_reads' HGo.out).2.2 (Kd.R_reads' HGo.out).2.1 HN.out false hcf.out).mono ?_); rintro e w6 ⟨rfl, hb6⟩; have HBn := Aside0.mk (HB.out.trans (hb6.mono HB.out.size)); have HMn := Aside0.mk (HM.out.below hb6); have HNn := Aside0.mk ((hb6.block g (blk_lt HN.out)).trans HN.out); have HTn := Aside0.mk ((hb6.block t (blk_lt HT.out)).trans HT.out); have HUn := Aside0.mk ((hb6.block u (blk_lt HU.out)).trans HU.out); have HSn := Aside0.mk (Kd.R_below HS.out hb6); have HGon := Aside0.mk (Kd.R_below HGo.out hb6); clear HB HM HN HT HU HS HGo y0 hlt hne; have HB := HBn; have HM := HMn; have HN := HNn; have HT := HTn; have HU := HUn; have HS := HSn; have HGo := HGon; clear HBn HMn HNn HTn HUn HSn HGon; have y0 : w6.cell? ⟨g, 0, none⟩ = some (.int .i64 par) := blk_cell HN.out 0; have hlt : g < w6.heap.size := blk_lt HN.out; have hne : g ≠ w6.heap.size := Nat.ne_of_lt hlt; clear hb6; have zt0 : w6.cell? ⟨t, 0, none⟩ = some (.int .i64 n1) := blk_cell HT.out 0))
           go_ret2
           exact ⟨_, rfl, Kd.R_nil _ _ _ _ _, HB.out⟩
          ·have hbib : (b == id) = false := by simpa using hbi
           have Hbi := Aside0.mk hbi
           clear hbi
           by_cases hk : b ∈ kidsL l0 par
           ·have hin : Aside0 (slices_Contains_int_int.f 4001 (kidsL l0 par) b = some true) := ⟨by rw [contains_f _ _ (Nat.le_trans (kidsL_len _ _) HL.out)]; simpa using hk⟩
            have Hk := Aside0.mk hk
            clear hk
            go_wp2_with (first | (go_at_call 50; (with_reducible refine (containsFunc_calls Ag cg gn g par _ (Kd.R_reads' HGo.out).2.2 (Kd.R_reads' HGo.out).2.1 HN.out false hcf.out).mono ?_); rintro e w6 ⟨rfl, hb6⟩; have HBn := Aside0.mk (HB.out.trans (hb6.mono HB.out.size)); have HMn := Aside0.mk (HM.out.below hb6); have HNn := Aside0.mk ((hb6.block g (blk_lt HN.out)).trans HN.out); have HTn := Aside0.mk ((hb6.block t (blk_lt HT.out)).trans HT.out); have HUn := Aside0.mk ((hb6.block u (blk_lt HU.out)).trans HU.out); have HSn := Aside0.mk (Kd.R_below HS.out hb6); have HGon := Aside0.mk (Kd.R_below HGo.out hb6); clear HB HM HN HT HU HS HGo y0 hlt hne; have HB := HBn; have HM := HMn; have HN := HNn; have HT := HTn; have HU := HUn; have HS := HSn; have HGo := HGon; clear HBn HMn HNn HTn HUn HSn HGon; have y0 : w6.cell? ⟨g, 0, none⟩ = some (.int .i64 par) := blk_cell HN.out 0; have hlt : g < w6.heap.size := blk_lt HN.out; have hne : g ≠ w6.heap.size := Nat.ne_of_lt hlt; clear hb6; have zt0 : w6.cell? ⟨t, 0, none⟩ = some (.int .i64 n1) := blk_cell HT.out 0) | (go_at_call 38; (with_reducible refine (tree_kids.calls 4001 _ c0 l0 par (kidsL l0 par) _ (Kd.C_below HR.out HB.out) HC0.out (kids_f _ _ HL.out)).mono ?_); rintro e w7 ⟨v7, rfl, hR7, hb7⟩; obtain ⟨A7, c7, rfl⟩ := Kd.R_slice hR7; have HK := Aside0.mk (Kd.R_reads' hR7); clear hR7; have HBn := Aside0.mk (HB.out.trans (hb7.mono HB.out.size)); have HMn := Aside0.mk (HM.out.below hb7); have HNn := Aside0.mk ((hb7.block g (blk_lt HN.out)).trans HN.out); have HTn := Aside0.mk ((hb7.block t (blk_lt HT.out)).trans HT.out); have HUn := Aside0.mk ((hb7.block u (blk_lt HU.out)).trans HU.out); have HSn := Aside0.mk (Kd.R_below HS.out hb7); have HGon := Aside0.mk (Kd.R_below HGo.out hb7); clear HB HM HN HT HU HS HGo y0 hlt hne; have HB := HBn; have HM := HMn; have HN := HNn; have HT := HTn; have HU := HUn; have HS := HSn; have HGo := HGon; clear HBn HMn HNn HTn HUn HSn HGon; have y0 : w7.cell? ⟨g, 0, none⟩ = some (.int .i64 par) := blk_cell HN.out 0; have hlt : g < w7.heap.size := blk_lt HN.out; have hne : g ≠ w7.heap.size := Nat.ne_of_lt hlt; clear hb7) | (go_at_call 43; (with_reducible refine (slices_Contains_int_int.calls 4001 A7 c7 (kidsL l0 par) b true _ HK.out.2.2 HK.out.2.1 hin.out).mono ?_); rintro e w8 ⟨rfl, hd⟩; have HBn := Aside0.mk (HB.out.trans (hd.below.mono HB.out.size)); have HMn := Aside0.mk (HM.out.below hd.below); have HNn := Aside0.mk ((hd.below.block g (blk_lt HN.out)).trans HN.out); have HTn := Aside0.mk ((hd.below.block t (blk_lt HT.out)).trans HT.out); have HUn := Aside0.mk ((hd.below.block u (blk_lt HU.out)).trans HU.out); have HSn := Aside0.mk (Kd.R_below HS.out hd.below); have HGon := Aside0.mk (Kd.R_below HGo.out hd.below); clear HB HM HN HT HU HS HGo y0 hlt hne; have HB := HBn; have HM := HMn; have HN := HNn; have HT := HTn; have HU := HUn; have HS := HSn; have HGo := HGon; clear HBn HMn HNn HTn HUn HSn HGon; have y0 : w8.cell? ⟨g, 0, none⟩ = some (.int .i64 par) := blk_cell HN.out 0; have hlt : g < w8.heap.size := blk_lt HN.out; have hne : g ≠ w8.heap.size := Nat.ne_of_lt hlt; clear hd))
            obtain ⟨V, rfl⟩ : ∃ V0 : World, V0 = w8 := ⟨_, rfl⟩
            clear zt0
            have zt0 : V.cell? ⟨t, 0, none⟩ = some (.int .i64 n1) := blk_cell HT.out 0
            have zu0 : V.cell? ⟨u, 0, none⟩ = some (.int .i64 p1) := blk_cell HU.out 0
            have htlt := blk_lt HT.out
            have hult := blk_lt HU.out
            obtain ⟨ad, e2, _, _, zk, _, _⟩ := at_T24 (Kd.C_below HR.out HB.out) n1 hn1a hn1b
            obtain ⟨ad2, e3, _, _, zm, _, _⟩ := at_T24 (Kd.C_below HR.out HB.out) p1 hp1a hp1b
            subst e2
            obtain rfl : ad = ad2 := by injection e3
            clear e3
            obtain ⟨kk, hkk⟩ : ∃ kk, kk = (rd_T24 l0 n1).f2 := ⟨_, rfl⟩
            obtain ⟨km, hkm⟩ : ∃ km, km = (rd_T24 l0 p1).f2 := ⟨_, rfl⟩
            rw [← hkk] at zk
            rw [← hkm] at zm
            have Hkk := Aside0.mk hkk
            have Hkm := Aside0.mk hkm
            clear hkk hkm
            have hn1c := eq_true hn1a
            have hn1d := eq_true hn1b
            have hp1c := eq_true hp1a
            have hp1d := eq_true hp1b
            have hn1e : decide (0 ≤ n1) = true := decide_eq_true hn1a
            have hn1f : decide (n1 < (l0.length : Int)) = true := decide_eq_true hn1b
            have hp1e : decide (0 ≤ p1) = true := decide_eq_true hp1a
            have hp1f : decide (p1 < (l0.length : Int)) = true := decide_eq_true hp1b
            by_cases hs : standsB kk km = true
            ·have hst : Aside0 (tree_stands.f kk km = some true) := ⟨by rw [stands_f, hs]⟩
             have hsf : Aside0 (standsB (rd_T24 l0 n1).f2 (rd_T24 l0 p1).f2 = true) := ⟨by rw [← Hkk.out, ← Hkm.out]; exact hs⟩
             clear hs
             refine start_ (n := 14) (S := fun w' => w'.cell? ⟨t, 0, none⟩ = some (.int .i64 n1) ∧ w'.cell? ⟨u, 0, none⟩ = some (.int .i64 p1) ∧ w'.cell? ⟨(ad.add (n1.toNat * 5)).block, (ad.add (n1.toNat * 5)).off + 2, none⟩ = some (.int .i64 kk) ∧ w'.cell? ⟨(ad.add (p1.toNat * 5)).block, (ad.add (p1.toNat * 5)).off + 2, none⟩ = some (.int .i64 km)) (ds := []) #[false, false, false, false, false, false, false, false, false, false, false, false, false, false] (by kernel_rfl) rfl rfl ⟨(((below_drew1 (Below.refl V.heap.size V)).cell (p := ⟨t, 0, none⟩) htlt).trans zt0), (((below_drew1 (Below.refl V.heap.size V)).cell (p := ⟨u, 0, none⟩) hult).trans zu0), (((below_drew1 (Below.refl V.heap.size V)).cell (p := ⟨(ad.add (n1.toNat * 5)).block, (ad.add (n1.toNat * 5)).off + 2, none⟩) (World.block_lt_of_cell? V _ zk)).trans zk), (((below_drew1 (Below.refl V.heap.size V)).cell (p := ⟨(ad.add (p1.toNat * 5)).block, (ad.add (p1.toNat * 5)).off + 2, none⟩) (World.block_lt_of_cell? V _ zm)).trans zm)⟩ (fun hHeld => ?_)
             refine with_tabW move_r.tab12 move_r.bits12 (fun HT_ HW_ => ?_)
             refine pz_ 0 (some 96) ?_
             refine pz_ 1 (some 97) ?_
             refine pz_ 6 (some 102) ?_
             refine pz_ 7 (some 103) ?_
             refine tz_ 2 (some 98) hHeld ?_
             refine pz_ 3 (some 99) ?_
             refine pz_ 4 (some 100) ?_
             refine tz_ 5 (some 101) hHeld ?_
             refine tz_ 8 (some 104) hHeld ?_
             refine pz_ 9 (some 105) ?_
             refine pz_ 10 (some 106) ?_
             refine tz_ 11 (some 107) hHeld ?_
             refine oz_ 12 (some 108) (fun K hK => ?_)
             refine goes_ Try.func44 (by kernel_rfl) rfl #[.int .i64 kk, .int .i64 km] (by rfl) rfl rfl z26_ ?_
             with_reducible refine (tree_stands.calls kk km true _ hst.out).mono ?_
             rintro e w9 ⟨rfl, hds⟩
             refine ⟨_, rfl, ?_⟩
             have hb9 : Below V.heap.size V w9 := (below_drew1 (Below.refl _ V)).trans hds.below
             refine hK.out _ _ ⟨((hb9.cell (p := ⟨t, 0, none⟩) htlt).trans zt0), ((hb9.cell (p := ⟨u, 0, none⟩) hult).trans zu0), ((hb9.cell (p := ⟨(ad.add (n1.toNat * 5)).block, (ad.add (n1.toNat * 5)).off + 2, none⟩) (World.block_lt_of_cell? V _ zk)).trans zk), ((hb9.cell (p := ⟨(ad.add (p1.toNat * 5)).block, (ad.add (p1.toNat * 5)).off + 2, none⟩) (World.block_lt_of_cell? V _ zm)).trans zm)⟩ (fun hHeld => ?_)
             clear hK K
             refine norm_ (a' := ?_) ?_ ?_
             rotate_left
             ·show Act.put _ (some 108) _ = _
              simp only [Act.put, List.setIfInBounds_toArray, List.set_cons_zero, List.set_cons_succ, i64_w, i32_w]
              rfl
             refine pz_ 13 (some 109) ?_
             refine done_ (done_of HT_.out (by kernel_rfl)) ?_

             have HBn := Aside0.mk (HB.out.trans (hb9.mono HB.out.size))
             have HMn := Aside0.mk (HM.out.below hb9)
             have HNn := Aside0.mk ((hb9.block g (blk_lt HN.out)).trans HN.out)
             have HTn := Aside0.mk ((hb9.block t (blk_lt HT.out)).trans HT.out)
             have HUn := Aside0.mk ((hb9.block u (blk_lt HU.out)).trans HU.out)
             have HSn := Aside0.mk (Kd.R_below HS.out hb9)
             have HGon := Aside0.mk (Kd.R_below HGo.out hb9)
             clear HB HM HN HT HU HS HGo y0 hlt hne
             have HB := HBn
             have HM := HMn
             have HN := HNn
             have HT := HTn
             have HU := HUn
             have HS := HSn
             have HGo := HGon
             clear HBn HMn HNn HTn HUn HSn HGon
             have y0 : w9.cell? ⟨g, 0, none⟩ = some (.int .i64 par) := blk_cell HN.out 0
             have hlt : g < w9.heap.size := blk_lt HN.out
             have hne : g ≠ w9.heap.size := Nat.ne_of_lt hlt
             clear zt0 zu0 zk zm htlt hult hb9 hn1c hn1d hp1c hp1d
             have H2 := HP.out
             unfold moveP at H2
             rw [HD.out] at H2
             simp [Hid.out, Hpar.out, hbz, hidb, Hm0.out, Hm1.out, Hn0.out, Hcf.out, Hbi.out, Hk.out, hsf.out] at H2
             rw [← HSt.out, ← HGn_.out] at H2
             cases hgc : gn with
             | nil => rw [hgc] at H2; simp at H2
             | cons x r =>
              subst hgc
              simp at H2
              obtain ⟨q, hput, hq⟩ := H2
              have HPut := Aside0.mk hput
              clear hput HP
              have hgf := Kd.R_form HGo.out (by simp)
              obtain ⟨go_, cg2, eg, hgb, hgl, _⟩ := hgf
              injection eg with eg1 eg2 eg3
              subst eg1 eg3
              clear eg2
              have hlen1 : (0 : Int) < ((x :: r).length : Int) := by simp <;> omega
              obtain ⟨adx, ex, xx0, xx1, xx2, xx3, xx4⟩ := at_T24 (Kd.R_reads' HGo.out).2.2 0 (by omega) (by simp <;> omega)
              obtain rfl : (⟨go_, 0, none⟩ : Addr) = adx := by injection ex
              clear ex
              have e0 : (⟨go_, 0, none⟩ : Addr).add (Int.toNat 0 * 5) = ⟨go_, 0, none⟩ := rfl
              rw [e0] at xx0 xx1 xx2 xx3 xx4
              clear e0
              have ex0 : rd_T24 (x :: r) 0 = x := rfl
              rw [ex0] at xx0 xx1 xx2 xx3 xx4
              clear ex0
              have hcells : ∀ j v, [.int .i64 x.f0, .int .i64 x.f1, .int .i64 x.f2, .int .i64 x.f3, .string x.f4][j]? = some v → w9.cell? ⟨go_, j, none⟩ = some v := by
               intro j v hj
               match j, hj with
               | 0, hj => obtain rfl := Option.some.inj hj; exact xx0
               | 1, hj => obtain rfl := Option.some.inj hj; exact xx1
               | 2, hj => obtain rfl := Option.some.inj hj; exact xx2
               | 3, hj => obtain rfl := Option.some.inj hj; exact xx3
               | 4, hj => obtain rfl := Option.some.inj hj; exact xx4
               | j + 5, hj => simp at hj
              have HCl := Aside0.mk hcells
              clear hcells xx0 xx2 xx3 xx4
              have hsz3 : (Try.prog.info? 3).map (·.size) = some 1 := by kernel_rfl
              have HSz := Aside0.mk hsz3
              clear hsz3
              go_wp2_with (first | (refine Kd.R_store k24 (w0 := w) w.heap.size rfl rfl 3 (.tmp 113) (.tmp 111) rfl 24 (g := go_) (n := (x :: r).length) (cap := cg) (o' := 1) 0 1 (x :: r) (reparent x par) (.int .i64 par) [.int .i64 par] [.int .i64 x.f0, .int .i64 x.f1, .int .i64 x.f2, .int .i64 x.f3, .string x.f4] _ (fun _ => False) rfl rfl rfl rfl HSz.out (by simp [Value.oneCell']) HGo.out (by omega) hlen1 rfl (fun j v hj => by have h_ := HCl.out j v hj; simpa using h_) (show 1 + 1 ≤ 5 by omega) (k24_mkM _ _ _ (reparent x par)) (fun _ hk => hk.elim) HB.out ?_; intro w10 hG10 hB10 hg10))
              have HGo2 := Aside0.mk hG10
              have HS2 := Aside0.mk (Kd.R_grown1 HS.out rfl hg10 (fun e_ => HGo.out.1 go_ rfl (by rw [← e_])))
              have HB2 := Aside0.mk hB10
              clear hG10 hB10 hg10
              go_wp2_with (first | (go_at_call 45; (refine (put_calls As cs st _ cg (reparent x par :: r) _ q w10 (Kd.R_reads' HS2.out).2.2 (Kd.R_reads' HS2.out).2.1 (Kd.R_reads' HGo2.out).2.2 (Kd.R_reads' HGo2.out).2.1 (by have := HL.out; have := Hlen.out; simp at this ⊢; omega) HPut.out).mono ?_); rintro e w11 ⟨v11, rfl, hR11, hb11⟩; obtain ⟨A11, c11, rfl⟩ := Kd.R_slice hR11; have HB11 := Aside0.mk (HB2.out.trans (hb11.mono HB2.out.size)); have HR11 := Aside0.mk (Kd.R_lower hR11 HB2.out.size); clear hR11 hb11))
              cases hvq : (placesP q).isSome with
              | true =>
               have hv : tree_Valid.f q = some true := by unfold tree_Valid.f; rw [hvq]
               have HV := Aside0.mk hv
               rw [hvq] at hq
               simp at hq
               obtain ⟨rfl, rfl⟩ := hq
               clear hv hvq
               go_wp2_with (first | (go_at_call 13; (with_reducible refine (tree_Valid.calls A11 c11 q true _ (Kd.R_reads' HR11.out).2.2 (Kd.R_reads' HR11.out).2.1 HV.out).mono ?_); rintro e w12 ⟨rfl, hb12⟩))
               go_ret2
               exact ⟨_, rfl, Kd.R_below HR11.out hb12, HB11.out.trans (hb12.mono HB11.out.size)⟩
              | false =>
               have hv : tree_Valid.f q = some false := by unfold tree_Valid.f; rw [hvq]
               have HV := Aside0.mk hv
               rw [hvq] at hq
               simp at hq
               obtain ⟨rfl, rfl⟩ := hq
               clear hv hvq
               go_wp2_with (first | (go_at_call 13; (with_reducible refine (tree_Valid.calls A11 c11 q false _ (Kd.R_reads' HR11.out).2.2 (Kd.R_reads' HR11.out).2.1 HV.out).mono ?_); rintro e w12 ⟨rfl, hb12⟩))
               go_ret2
               exact ⟨_, rfl, Kd.R_nil _ _ _ _ _, HB11.out.trans (hb12.mono HB11.out.size)⟩
            ·have hst : Aside0 (tree_stands.f kk km = some false) := ⟨by rw [stands_f]; simpa using hs⟩
             have hsf : Aside0 (standsB (rd_T24 l0 n1).f2 (rd_T24 l0 p1).f2 = false) := ⟨by rw [← Hkk.out, ← Hkm.out]; simpa using hs⟩
             clear hs
             have H2 := HP.out
             unfold moveP at H2
             rw [HD.out] at H2
             simp [Hid.out, Hpar.out, hbz, hidb, Hm0.out, Hm1.out, Hn0.out, Hcf.out, Hbi.out, Hk.out, hsf.out] at H2
             obtain ⟨rfl, rfl⟩ := H2
             clear HP
             refine start_ (n := 14) (S := fun w' => w'.cell? ⟨t, 0, none⟩ = some (.int .i64 n1) ∧ w'.cell? ⟨u, 0, none⟩ = some (.int .i64 p1) ∧ w'.cell? ⟨(ad.add (n1.toNat * 5)).block, (ad.add (n1.toNat * 5)).off + 2, none⟩ = some (.int .i64 kk) ∧ w'.cell? ⟨(ad.add (p1.toNat * 5)).block, (ad.add (p1.toNat * 5)).off + 2, none⟩ = some (.int .i64 km)) (ds := []) #[false, false, false, false, false, false, false, false, false, false, false, false, false, false] (by kernel_rfl) rfl rfl ⟨(((below_drew1 (Below.refl V.heap.size V)).cell (p := ⟨t, 0, none⟩) htlt).trans zt0), (((below_drew1 (Below.refl V.heap.size V)).cell (p := ⟨u, 0, none⟩) hult).trans zu0), (((below_drew1 (Below.refl V.heap.size V)).cell (p := ⟨(ad.add (n1.toNat * 5)).block, (ad.add (n1.toNat * 5)).off + 2, none⟩) (World.block_lt_of_cell? V _ zk)).trans zk), (((below_drew1 (Below.refl V.heap.size V)).cell (p := ⟨(ad.add (p1.toNat * 5)).block, (ad.add (p1.toNat * 5)).off + 2, none⟩) (World.block_lt_of_cell? V _ zm)).trans zm)⟩ (fun hHeld => ?_)
             refine with_tabW move_r.tab12 move_r.bits12 (fun HT_ HW_ => ?_)
             refine pz_ 0 (some 96) ?_
             refine pz_ 1 (some 97) ?_
             refine pz_ 6 (some 102) ?_
             refine pz_ 7 (some 103) ?_
             refine tz_ 2 (some 98) hHeld ?_
             refine pz_ 3 (some 99) ?_
             refine pz_ 4 (some 100) ?_
             refine tz_ 5 (some 101) hHeld ?_
             refine tz_ 8 (some 104) hHeld ?_
             refine pz_ 9 (some 105) ?_
             refine pz_ 10 (some 106) ?_
             refine tz_ 11 (some 107) hHeld ?_
             refine oz_ 12 (some 108) (fun K hK => ?_)
             refine goes_ Try.func44 (by kernel_rfl) rfl #[.int .i64 kk, .int .i64 km] (by rfl) rfl rfl z26_ ?_
             with_reducible refine (tree_stands.calls kk km false _ hst.out).mono ?_
             rintro e w9 ⟨rfl, hds⟩
             refine ⟨_, rfl, ?_⟩
             have hb9 : Below V.heap.size V w9 := (below_drew1 (Below.refl _ V)).trans hds.below
             refine hK.out _ _ ⟨((hb9.cell (p := ⟨t, 0, none⟩) htlt).trans zt0), ((hb9.cell (p := ⟨u, 0, none⟩) hult).trans zu0), ((hb9.cell (p := ⟨(ad.add (n1.toNat * 5)).block, (ad.add (n1.toNat * 5)).off + 2, none⟩) (World.block_lt_of_cell? V _ zk)).trans zk), ((hb9.cell (p := ⟨(ad.add (p1.toNat * 5)).block, (ad.add (p1.toNat * 5)).off + 2, none⟩) (World.block_lt_of_cell? V _ zm)).trans zm)⟩ (fun hHeld => ?_)
             clear hK K
             refine norm_ (a' := ?_) ?_ ?_
             rotate_left
             ·show Act.put _ (some 108) _ = _
              simp only [Act.put, List.setIfInBounds_toArray, List.set_cons_zero, List.set_cons_succ, i64_w, i32_w]
              rfl
             refine pz_ 13 (some 109) ?_
             refine done_ (done_of HT_.out (by kernel_rfl)) ?_

             have HBn := Aside0.mk (HB.out.trans (hb9.mono HB.out.size))
             have HMn := Aside0.mk (HM.out.below hb9)
             have HNn := Aside0.mk ((hb9.block g (blk_lt HN.out)).trans HN.out)
             have HTn := Aside0.mk ((hb9.block t (blk_lt HT.out)).trans HT.out)
             have HUn := Aside0.mk ((hb9.block u (blk_lt HU.out)).trans HU.out)
             have HSn := Aside0.mk (Kd.R_below HS.out hb9)
             have HGon := Aside0.mk (Kd.R_below HGo.out hb9)
             clear HB HM HN HT HU HS HGo y0 hlt hne
             have HB := HBn
             have HM := HMn
             have HN := HNn
             have HT := HTn
             have HU := HUn
             have HS := HSn
             have HGo := HGon
             clear HBn HMn HNn HTn HUn HSn HGon
             have y0 : w9.cell? ⟨g, 0, none⟩ = some (.int .i64 par) := blk_cell HN.out 0
             have hlt : g < w9.heap.size := blk_lt HN.out
             have hne : g ≠ w9.heap.size := Nat.ne_of_lt hlt
             clear zt0 zu0 zk zm htlt hult hb9
             go_wp2
             go_ret2
             exact ⟨_, rfl, Kd.R_nil _ _ _ _ _, HB.out⟩
           ·have hin : Aside0 (slices_Contains_int_int.f 4001 (kidsL l0 par) b = some false) := ⟨by rw [contains_f _ _ (Nat.le_trans (kidsL_len _ _) HL.out)]; simpa using hk⟩
            have H2 := HP.out
            unfold moveP at H2
            rw [HD.out] at H2
            simp [Hid.out, Hpar.out, hbz, hidb, Hm0.out, Hm1.out, Hn0.out, Hcf.out, Hbi.out, hk] at H2
            obtain ⟨rfl, rfl⟩ := H2
            clear hk HP
            go_wp2_with (first | (go_at_call 50; (with_reducible refine (containsFunc_calls Ag cg gn g par _ (Kd.R_reads' HGo.out).2.2 (Kd.R_reads' HGo.out).2.1 HN.out false hcf.out).mono ?_); rintro e w6 ⟨rfl, hb6⟩; have HBn := Aside0.mk (HB.out.trans (hb6.mono HB.out.size)); have HMn := Aside0.mk (HM.out.below hb6); have HNn := Aside0.mk ((hb6.block g (blk_lt HN.out)).trans HN.out); have HTn := Aside0.mk ((hb6.block t (blk_lt HT.out)).trans HT.out); have HUn := Aside0.mk ((hb6.block u (blk_lt HU.out)).trans HU.out); have HSn := Aside0.mk (Kd.R_below HS.out hb6); have HGon := Aside0.mk (Kd.R_below HGo.out hb6); clear HB HM HN HT HU HS HGo y0 hlt hne; have HB := HBn; have HM := HMn; have HN := HNn; have HT := HTn; have HU := HUn; have HS := HSn; have HGo := HGon; clear HBn HMn HNn HTn HUn HSn HGon; have y0 : w6.cell? ⟨g, 0, none⟩ = some (.int .i64 par) := blk_cell HN.out 0; have hlt : g < w6.heap.size := blk_lt HN.out; have hne : g ≠ w6.heap.size := Nat.ne_of_lt hlt; clear hb6; have zt0 : w6.cell? ⟨t, 0, none⟩ = some (.int .i64 n1) := blk_cell HT.out 0) | (go_at_call 38; (with_reducible refine (tree_kids.calls 4001 _ c0 l0 par (kidsL l0 par) _ (Kd.C_below HR.out HB.out) HC0.out (kids_f _ _ HL.out)).mono ?_); rintro e w7 ⟨v7, rfl, hR7, hb7⟩; obtain ⟨A7, c7, rfl⟩ := Kd.R_slice hR7; have HK := Aside0.mk (Kd.R_reads' hR7); clear hR7; have HBn := Aside0.mk (HB.out.trans (hb7.mono HB.out.size)); have HMn := Aside0.mk (HM.out.below hb7); have HNn := Aside0.mk ((hb7.block g (blk_lt HN.out)).trans HN.out); have HTn := Aside0.mk ((hb7.block t (blk_lt HT.out)).trans HT.out); have HUn := Aside0.mk ((hb7.block u (blk_lt HU.out)).trans HU.out); have HSn := Aside0.mk (Kd.R_below HS.out hb7); have HGon := Aside0.mk (Kd.R_below HGo.out hb7); clear HB HM HN HT HU HS HGo y0 hlt hne; have HB := HBn; have HM := HMn; have HN := HNn; have HT := HTn; have HU := HUn; have HS := HSn; have HGo := HGon; clear HBn HMn HNn HTn HUn HSn HGon; have y0 : w7.cell? ⟨g, 0, none⟩ = some (.int .i64 par) := blk_cell HN.out 0; have hlt : g < w7.heap.size := blk_lt HN.out; have hne : g ≠ w7.heap.size := Nat.ne_of_lt hlt; clear hb7) | (go_at_call 43; (with_reducible refine (slices_Contains_int_int.calls 4001 A7 c7 (kidsL l0 par) b false _ HK.out.2.2 HK.out.2.1 hin.out).mono ?_); rintro e w8 ⟨rfl, hd⟩; have HBn := Aside0.mk (HB.out.trans (hd.below.mono HB.out.size)); have HMn := Aside0.mk (HM.out.below hd.below); have HNn := Aside0.mk ((hd.below.block g (blk_lt HN.out)).trans HN.out); have HTn := Aside0.mk ((hd.below.block t (blk_lt HT.out)).trans HT.out); have HUn := Aside0.mk ((hd.below.block u (blk_lt HU.out)).trans HU.out); have HSn := Aside0.mk (Kd.R_below HS.out hd.below); have HGon := Aside0.mk (Kd.R_below HGo.out hd.below); clear HB HM HN HT HU HS HGo y0 hlt hne; have HB := HBn; have HM := HMn; have HN := HNn; have HT := HTn; have HU := HUn; have HS := HSn; have HGo := HGon; clear HBn HMn HNn HTn HUn HSn HGon; have y0 : w8.cell? ⟨g, 0, none⟩ = some (.int .i64 par) := blk_cell HN.out 0; have hlt : g < w8.heap.size := blk_lt HN.out; have hne : g ≠ w8.heap.size := Nat.ne_of_lt hlt; clear hd))
            go_ret2
            exact ⟨_, rfl, Kd.R_nil _ _ _ _ _, HB.out⟩
     ·have hbid : Aside0 (tree_isID.f b = some false) := ⟨by rw [idB_f]; simpa using hidb⟩
      have H2 := HP.out
      unfold moveP at H2
      rw [HD.out] at H2
      simp [Hid.out, Hpar.out, hbz, hidb] at H2
      obtain ⟨rfl, rfl⟩ := H2
      clear HP hidb hbz
      go_wp2_with (first | (go_at_call_of 32 (Value.int .i64 id); (with_reducible refine (tree_isID.calls id true _ hid.out).mono ?_); rintro e w2 ⟨rfl, hd⟩; have HBn := Aside0.mk (HB.out.trans (hd.below.mono HB.out.size)); have HMn := Aside0.mk (HM.out.below hd.below); have HNn := Aside0.mk ((hd.below.block g (blk_lt HN.out)).trans HN.out); clear HB HM HN y0 hlt hne; have HB := HBn; have HM := HMn; have HN := HNn; clear HBn HMn HNn; have y0 : w2.cell? ⟨g, 0, none⟩ = some (.int .i64 par) := blk_cell HN.out 0; have hlt : g < w2.heap.size := blk_lt HN.out; have hne : g ≠ w2.heap.size := Nat.ne_of_lt hlt; clear hd) | (go_at_call_of 32 (Value.int .i64 par); (with_reducible refine (tree_isID.calls par true _ hpar.out).mono ?_); rintro e w2 ⟨rfl, hd⟩; have HBn := Aside0.mk (HB.out.trans (hd.below.mono HB.out.size)); have HMn := Aside0.mk (HM.out.below hd.below); have HNn := Aside0.mk ((hd.below.block g (blk_lt HN.out)).trans HN.out); clear HB HM HN y0 hlt hne; have HB := HBn; have HM := HMn; have HN := HNn; clear HBn HMn HNn; have y0 : w2.cell? ⟨g, 0, none⟩ = some (.int .i64 par) := blk_cell HN.out 0; have hlt : g < w2.heap.size := blk_lt HN.out; have hne : g ≠ w2.heap.size := Nat.ne_of_lt hlt; clear hd) | (go_at_call_of 32 (Value.int .i64 b); (with_reducible refine (tree_isID.calls b false _ hbid.out).mono ?_); rintro e w2 ⟨rfl, hd⟩; have HBn := Aside0.mk (HB.out.trans (hd.below.mono HB.out.size)); have HMn := Aside0.mk (HM.out.below hd.below); have HNn := Aside0.mk ((hd.below.block g (blk_lt HN.out)).trans HN.out); clear HB HM HN y0 hlt hne; have HB := HBn; have HM := HMn; have HN := HNn; clear HBn HMn HNn; have y0 : w2.cell? ⟨g, 0, none⟩ = some (.int .i64 par) := blk_cell HN.out 0; have hlt : g < w2.heap.size := blk_lt HN.out; have hne : g ≠ w2.heap.size := Nat.ne_of_lt hlt; clear hd))
      go_ret2
      exact ⟨_, rfl, Kd.R_nil _ _ _ _ _, HB.out⟩
   ·have hpar : Aside0 (tree_isID.f par = some false) := ⟨by rw [idB_f]; simpa using hpar_⟩
    have H2 := HP.out
    unfold moveP at H2
    rw [HD.out] at H2
    simp [Hid.out, hpar_] at H2
    obtain ⟨rfl, rfl⟩ := H2
    clear HP hpar_
    go_wp2_with (first | (go_at_call_of 32 (Value.int .i64 id); (with_reducible refine (tree_isID.calls id true _ hid.out).mono ?_); rintro e w2 ⟨rfl, hd⟩; have HBn := Aside0.mk (HB.out.trans (hd.below.mono HB.out.size)); have HMn := Aside0.mk (HM.out.below hd.below); have HNn := Aside0.mk ((hd.below.block g (blk_lt HN.out)).trans HN.out); clear HB HM HN y0 hlt hne; have HB := HBn; have HM := HMn; have HN := HNn; clear HBn HMn HNn; have y0 : w2.cell? ⟨g, 0, none⟩ = some (.int .i64 par) := blk_cell HN.out 0; have hlt : g < w2.heap.size := blk_lt HN.out; have hne : g ≠ w2.heap.size := Nat.ne_of_lt hlt; clear hd) | (go_at_call_of 32 (Value.int .i64 par); (with_reducible refine (tree_isID.calls par false _ hpar.out).mono ?_); rintro e w2 ⟨rfl, hd⟩; have HBn := Aside0.mk (HB.out.trans (hd.below.mono HB.out.size)); have HMn := Aside0.mk (HM.out.below hd.below); have HNn := Aside0.mk ((hd.below.block g (blk_lt HN.out)).trans HN.out); clear HB HM HN y0 hlt hne; have HB := HBn; have HM := HMn; have HN := HNn; clear HBn HMn HNn; have y0 : w2.cell? ⟨g, 0, none⟩ = some (.int .i64 par) := blk_cell HN.out 0; have hlt : g < w2.heap.size := blk_lt HN.out; have hne : g ≠ w2.heap.size := Nat.ne_of_lt hlt; clear hd))
    go_ret2
    exact ⟨_, rfl, Kd.R_nil _ _ _ _ _, HB.out⟩
  ·have hid : Aside0 (tree_isID.f id = some false) := ⟨by rw [idB_f]; simpa using hid_⟩
   have H2 := HP.out
   unfold moveP at H2
   rw [HD.out] at H2
   simp [hid_] at H2
   obtain ⟨rfl, rfl⟩ := H2
   clear HP hid_
   go_wp2_with (first | (go_at_call_of 32 (Value.int .i64 id); (with_reducible refine (tree_isID.calls id false _ hid.out).mono ?_); rintro e w2 ⟨rfl, hd⟩; have HBn := Aside0.mk (HB.out.trans (hd.below.mono HB.out.size)); have HMn := Aside0.mk (HM.out.below hd.below); have HNn := Aside0.mk ((hd.below.block g (blk_lt HN.out)).trans HN.out); clear HB HM HN y0 hlt hne; have HB := HBn; have HM := HMn; have HN := HNn; clear HBn HMn HNn; have y0 : w2.cell? ⟨g, 0, none⟩ = some (.int .i64 par) := blk_cell HN.out 0; have hlt : g < w2.heap.size := blk_lt HN.out; have hne : g ≠ w2.heap.size := Nat.ne_of_lt hlt; clear hd))
   go_ret2
   exact ⟨_, rfl, Kd.R_nil _ _ _ _ _, HB.out⟩
def tree_Move.f (l0 : List S24) (a1 a2 a3 : Int) : Option (List S24 × Int) := moveP l0 a1 a2 a3
theorem tree_Move.calls (A0 : Option Addr) (c0 : Nat) (l0 : List (S24)) (a1 : Int) (a2 : Int) (a3 : Int) (r1 : List (S24)) (r2 : Int) (w : World) (hr0 : Kd.C k24 w A0 l0.length l0) (hc0 : l0.length ≤ c0) (h : tree_Move.f l0 a1 a2 a3 = some (r1, r2)) :
  Calls Try.prog 25 #[.slice A0 l0.length c0, .int .i64 a1, .int .i64 a2, .int .i64 a3] w fun e w' => ∃ v0_ : Value, e = .returned (.tuple #[v0_, .int .i64 r2]) ∧ Kd.R k24 24 w' w.heap.size (fun _ => True) v0_ r1 ∧ Below w.heap.size w w' :=
 move_calls A0 c0 l0 a1 a2 a3 r1 r2 w hr0 hc0 h
end Go.Proofs.Ytpafhhgoldenoaa.P
end

import Derived.Test.YtpafhhgoldenoaaInserts1
import Derived.Maps.OwnOps
import Derived.MapKept
import Derived.Below
import Derived.OwnWalk
import Derived.WalkSmall
import Derived.Lib.Hide
import Derived.IntWalk
import Derived.Outline
/- Laws that the proof of Inserts uses. -/
section
namespace Go.Proofs.Ytpafhhgoldenoaa.XM
open Go Go.RowKit Go.MapKept
set_option linter.unusedVariables false in
structure KeyOK (d : TypeDesc) {κ : Type} (encK : κ → Value) : Prop where
 key : ∀ x, IsKey d (encK x)
 inj : ∀ x y, encK x = encK y → x = y
theorem KeyOK.int (q : IntKind) : KeyOK (.int q) (Value.int q) := ⟨fun _ => rfl, fun x y h => by injection h⟩
variable {κ α : Type} [DecidableEq κ]
def mlook (L : List (κ × α)) (x : κ) : Option α := (L.find? (fun p => decide (p.1 = x))).map (·.2)
def mput (L : List (κ × α)) (x : κ) (v : α) : List (κ × α) :=
 if (mlook L x).isSome then L.map (fun p => if p.1 = x then (x, v) else p) else L ++ [(x, v)]
theorem mlook_nil (x : κ) : mlook ([] : List (κ × α)) x = none := rfl
theorem mlook_cons (p : κ × α) (L : List (κ × α)) (x : κ) : mlook (p :: L) x = if p.1 = x then some p.2 else mlook L x := by
 unfold mlook
 by_cases h : p.1 = x <;> simp [h]
theorem mlook_append (L M : List (κ × α)) (x : κ) : mlook (L ++ M) x = (mlook L x).or (mlook M x) := by
 induction L with
 | nil => simp [mlook_nil]
 | cons p L ih => rw [List.cons_append, mlook_cons, mlook_cons]; by_cases h : p.1 = x <;> simp [h, ih]
theorem mlook_map_put (L : List (κ × α)) (x y : κ) (v : α) : mlook (L.map (fun p => if p.1 = x then (x, v) else p)) y = if x = y then (mlook L y).map (fun _ => v) else mlook L y := by
 induction L with
 | nil => simp [mlook_nil]
 | cons p L ih =>
  rw [List.map_cons, mlook_cons, mlook_cons, ih]
  by_cases h : p.1 = x
  ·simp only [h, if_true]
   by_cases h2 : x = y <;> simp [h2]
  ·simp only [h, if_false]
   by_cases h2 : x = y
   ·subst h2; simp [h]
   ·simp [h2]
theorem mlook_mput (L : List (κ × α)) (x y : κ) (v : α) : mlook (mput L x v) y = if x = y then some v else mlook L y := by
 unfold mput
 by_cases h : (mlook L x).isSome
 ·rw [if_pos h, mlook_map_put]
  by_cases h2 : x = y
  ·subst h2
   obtain ⟨u, hu⟩ := Option.isSome_iff_exists.1 h
   simp [hu]
  ·simp [h2]
 ·rw [if_neg h, mlook_append, mlook_cons, mlook_nil]
  by_cases h2 : x = y
  ·subst h2
   have : mlook L x = none := by simpa using h
   simp [this]
  ·simp [h2]
theorem mlook_none_iff (L : List (κ × α)) (x : κ) : mlook L x = none ↔ ∀ p ∈ L, p.1 ≠ x := by
 unfold mlook
 simp [List.find?_eq_none]
def MapAt (_d : TypeDesc) (encK : κ → Value) (enc : α → Value) (w : World) (b : Nat) (L : List (κ × α)) : Prop :=
 ∃ es clock, w.heap[b]? = some (.map es clock) ∧ Stamped es clock ∧ es.toList.map (fun e => (e.key, e.val)) = L.map (fun p => (encK p.1, enc p.2))
set_option linter.unusedVariables false
section
variable {d : TypeDesc} {encK : κ → Value} {enc : α → Value} {w w' : World} {b : Nat} {L : List (κ × α)} {P : Program}
omit [DecidableEq κ] in
theorem MapAt.lt (h : MapAt d encK enc w b L) : b < w.heap.size := by
 obtain ⟨es, clock, hb, _⟩ := h
 exact (Array.getElem?_eq_some_iff.1 hb).1
omit [DecidableEq κ] in
theorem MapAt.move (h : MapAt d encK enc w b L) (hm : w'.heap[b]? = w.heap[b]?) : MapAt d encK enc w' b L := by
 obtain ⟨es, clock, hb, r⟩ := h
 exact ⟨es, clock, hm.trans hb, r⟩
omit [DecidableEq κ] in
theorem MapAt.below (h : MapAt d encK enc w b L) (hb : Below w.heap.size w w') : MapAt d encK enc w' b L := h.move (hb.block b h.lt)
omit [DecidableEq κ] in
theorem MapAt.alloc (h : MapAt d encK enc w b L) (o : Obj) : MapAt d encK enc (w.alloc o) b L := h.move (Below.heap_alloc w o b h.lt)
omit [DecidableEq κ] in
theorem MapAt.drewN (h : MapAt d encK enc w b L) (n : Nat) : MapAt d encK enc (w.drewN n) b L := h.move rfl
omit [DecidableEq κ] in
theorem MapAt.drew (h : MapAt d encK enc w b L) : MapAt d encK enc w.drew b L := h
omit [DecidableEq κ] in
theorem MapAt.grown (h : MapAt d encK enc w b L) {row : Option Nat} (hg : w.grownBy w' row) (hne : some b ≠ row) : MapAt d encK enc w' b L := h.move (hg.block b h.lt hne)
omit [DecidableEq κ] in
theorem MapAt.made (w : World) : MapAt d encK enc (w.alloc (.map #[] 0)) w.heap.size [] := ⟨#[], 0, (heap_alloc w _).1, stamped_empty 0, by simp⟩
theorem find_spec (K : KeyOK d encK) (x : κ) : ∀ (l : List MapEntry) (L : List (κ × α)) (i : Nat), l.map (fun e => (e.key, e.val)) = L.map (fun p => (encK p.1, enc p.2)) →
  (mlook L x = none ∧ Instr.findNow d (encK x) l i = some none ∧ ∀ e ∈ l, e.key ≠ encK x) ∨
  ∃ v j e, mlook L x = some v ∧ Instr.findNow d (encK x) l i = some (some (i + j, enc v)) ∧ l[j]? = some e ∧ e.key = encK x
 | [], L, i, h => by
  cases L with
  | nil => exact .inl ⟨rfl, rfl, by simp⟩
  | cons => simp at h
 | e :: l, L, i, h => by
  cases L with
  | nil => simp at h
  | cons p L =>
   simp only [List.map_cons, List.cons.injEq, Prod.mk.injEq] at h
   obtain ⟨⟨hk, hv⟩, h⟩ := h
   obtain ⟨r, hr, hiff⟩ := sameNow_of_keys (K.key x) (hk ▸ K.key p.1 : IsKey d e.key)
   cases r with
   | true =>
    have e1 : encK x = e.key := hiff.1 rfl
    have e2 : p.1 = x := (K.inj _ _ (e1.trans hk)).symm
    exact .inr ⟨p.2, 0, e, by rw [mlook_cons, if_pos e2], by simp [Instr.findNow, hr, hv], rfl, e1.symm⟩
   | false =>
    have e1 : encK x ≠ e.key := fun hh => by simpa using hiff.2 hh
    have e2 : ¬ p.1 = x := fun hh => e1 (by rw [hk, hh])
    rcases find_spec K x l L (i + 1) h with ⟨h1, h2, h3⟩ | ⟨v, j, e', h1, h2, h3, h4⟩
    ·exact .inl ⟨by rw [mlook_cons, if_neg e2]; exact h1, by simp [Instr.findNow, hr, h2], by
      intro y hy
      rcases List.mem_cons.1 hy with rfl | hy
      ·exact fun hh => e1 hh.symm
      ·exact h3 y hy⟩
    ·exact .inr ⟨v, j + 1, e', by rw [mlook_cons, if_neg e2]; exact h1, by simp [Instr.findNow, hr, h2]; omega, by simpa using h3, h4⟩
theorem MapAt.run_lookup (h : MapAt d encK enc w b L) (K : KeyOK d encK) {t k e : TypeId} (ht : P.underlying t = some (.map k e)) (hk : P.underlying k = some d) {z : Value} (hz : (zeroValue e).run P w = .ok z w) (x : κ) (ok : Bool) :
  (Instr.lookup t (.map (some b)) (encK x) ok).run P w = .ok (if ok then .tuple #[((mlook L x).map enc).getD z, .bool (mlook L x).isSome] else ((mlook L x).map enc).getD z) w := by
 obtain ⟨es, clock, hb, _, hl⟩ := h
 rcases find_spec K x es.toList L 0 hl with ⟨h1, h2, h3⟩ | ⟨v, j, e', h1, h2, h3, h4⟩
 ·simp [Instr.lookup, run_underlying ht, MapKept.run_getObj_map hb, run_checkKey hk (K.key x), run_findKey hk h2, hz, Result.andThen, h1]
 ·simp [Instr.lookup, run_underlying ht, MapKept.run_getObj_map hb, run_checkKey hk (K.key x), run_findKey hk h2, Result.andThen, h1]
theorem MapAt.run_update (h : MapAt d encK enc w b L) (K : KeyOK d encK) {t k e : TypeId} (ht : P.underlying t = some (.map k e)) (hk : P.underlying k = some d) (x : κ) (v : α) :
  ∃ w', (Instr.mapUpdate t (.map (some b)) (encK x) (enc v)).run P w = .ok () w' ∧ MapAt d encK enc w' b (mput L x v) ∧ w.grownBy w' (some b) := by
 obtain ⟨es, clock, hb, hs, hl⟩ := h
 have hlt : b < w.heap.size := (Array.getElem?_eq_some_iff.1 hb).1
 have hself : ∀ o : Obj, (w.heap.setIfInBounds b o)[b]? = some o := fun o => by simp [hlt]
 have hother : ∀ (o : Obj) i, i < w.heap.size → some i ≠ some b → (w.heap.setIfInBounds b o)[i]? = w.heap[i]? := fun o i _ hi => by
  rw [Array.getElem?_setIfInBounds_ne (fun e => hi (by rw [e]))]
 rcases find_spec K x es.toList L 0 hl with ⟨h1, h2, h3⟩ | ⟨v0, j, e0, h1, h2, h3, h4⟩
 ·refine ⟨{ w with heap := w.heap.setIfInBounds b (.map (es.push { key := encK x, val := enc v, born := clock }) (clock + 1)) }, ?_, ⟨_, _, hself _, stamped_push hs h3, ?_⟩, ⟨rfl, rfl, rfl, by simp, hother _⟩⟩
  ·simp [Instr.mapUpdate, run_underlying ht, MapKept.run_getObj_map hb, run_checkKey hk (K.key x), run_findKey hk h2, MapKept.run_setObj_map _ hb, Result.andThen]
  ·unfold mput
   rw [h1]
   simp [hl]
 ·have hj : es[j]? = some e0 := by simpa using h3
  refine ⟨{ w with heap := w.heap.setIfInBounds b (.map (es.modify j (fun e' => { e' with key := encK x, val := enc v })) clock) }, ?_, ⟨_, _, hself _, stamped_modify hs _ _ (fun _ _ => rfl) (fun e' _ he' => by rw [hj] at he'; cases he'; exact h4.symm), ?_⟩, ⟨rfl, rfl, rfl, by simp, hother _⟩⟩
  ·simp [Instr.mapUpdate, run_underlying ht, MapKept.run_getObj_map hb, run_checkKey hk (K.key x), run_findKey hk h2, hj, h4, run_keyThatStays (K.key x), MapKept.run_setObj_map _ hb, Result.andThen]
  ·unfold mput
   rw [h1, Option.isSome_some, if_pos rfl, Array.toList_modify, List.map_map]
   have hlen : es.toList.length = L.length := by have := congrArg List.length hl; simpa using this
   have hkv : ∀ i (hi : i < es.toList.length), (es.toList[i].key, es.toList[i].val) = (encK (L[i]'(hlen ▸ hi)).1, enc (L[i]'(hlen ▸ hi)).2) := fun i hi => by
    have h5 : (es.toList.map (fun e => (e.key, e.val)))[i]'(by simpa using hi) = (L.map (fun p => (encK p.1, enc p.2)))[i]'(by simpa using hlen ▸ hi) := by simp only [hl]
    simpa only [List.getElem_map] using h5
   apply List.ext_getElem?
   intro i
   by_cases hi : i < es.toList.length
   ·have hiL : i < L.length := hlen ▸ hi
    have hkvi := hkv i hi
    rw [List.getElem?_map, List.getElem?_map, List.getElem?_modify, List.getElem?_eq_getElem hi, List.getElem?_eq_getElem hiL]
    show some _ = some _
    congr 1
    dsimp only [Function.comp]
    simp only [Prod.mk.injEq] at hkvi
    by_cases hij : j = i
    ·subst hij
     have e1 : es.toList[j] = e0 := by have := List.getElem?_eq_getElem hi; rw [h3] at this; exact (Option.some.inj this).symm
     have e2 : (L[j]'hiL).1 = x := K.inj _ _ (by rw [← hkvi.1, e1, h4])
     simp [e2]
    ·have e2 : ¬ (L[i]'hiL).1 = x := by
      intro e2
      have hjl : j < es.toList.length := (List.getElem?_eq_some_iff.1 h3).1
      have e1 : es.toList[j] = e0 := (List.getElem?_eq_some_iff.1 h3).2
      have hne := List.pairwise_iff_getElem.1 hs.2.2
      have hk1 : es.toList[i].key = es.toList[j].key := by rw [hkvi.1, e2, e1, h4]
      rcases Nat.lt_or_gt_of_ne hij with hlt2 | hlt2
      ·exact hne j i (by simpa using hjl) (by simpa using hi) hlt2 (by simp only [List.getElem_map]; exact hk1.symm)
      ·exact hne i j (by simpa using hi) (by simpa using hjl) hlt2 (by simp only [List.getElem_map]; exact hk1)
     rw [if_neg hij, if_neg e2, hkvi.1, hkvi.2]
   ·have hiL : ¬ i < L.length := hlen ▸ hi
    rw [List.getElem?_eq_none (by simp at hi ⊢; omega), List.getElem?_eq_none (by simp at hiL ⊢; omega)]
theorem wpList_lookup_at (w : World) {ops : Array Oper} {rest : List Oper} {o : Oper} {a : Act} {Q : Exit → Act → World → Prop}
  (hg : o.guard = none) (m x : Operand) (t : TypeId) (ok : Bool) (hop : o.op = Op.lookup t m x ok) (k e : TypeId) (K : KeyOK d encK) (ht : P.underlying t = some (.map k e)) (hk : P.underlying k = some d) {z : Value} (hz : (zeroValue e).run P w = .ok z w)
  (hm : a.eval m = .map (some b)) (h : MapAt d encK enc w b L) (key : κ) (hx : a.eval x = encK key) (r : Option α) (hr : mlook L key = r)
  (hK : wpList P ops Q rest (a.put o.dst (if ok then .tuple #[(r.map enc).getD z, .bool r.isSome] else (r.map enc).getD z)) w) : wpList P ops Q (o :: rest) a w := by
 refine wpList_plain hg fun K' hK' => ?_
 have hrun := h.run_lookup K ht hk hz key ok
 rw [hr] at hrun
 unfold Oper.wp
 simp only [execOp, hop, hm, hx]
 simp [hrun, Result.andThen]
 exact hK' _ _ hK
theorem wpList_lookup_ok (w : World) {ops : Array Oper} {rest : List Oper} {o : Oper} {a : Act} {Q : Exit → Act → World → Prop}
  (hg : o.guard = none) (m x : Operand) (t : TypeId) (hop : o.op = Op.lookup t m x true) (k e : TypeId) (K : KeyOK d encK) (ht : P.underlying t = some (.map k e)) (hk : P.underlying k = some d) {z : Value} (hz : (zeroValue e).run P w = .ok z w)
  (hm : a.eval m = .map (some b)) (h : MapAt d encK enc w b L) (key : κ) (hx : a.eval x = encK key) (v : Value) (hv : ((mlook L key).map enc).getD z = v) (b' : Bool) (hb : (mlook L key).isSome = b')
  (hK : wpList P ops Q rest (a.put o.dst (.tuple #[v, .bool b'])) w) : wpList P ops Q (o :: rest) a w := by
 subst hv
 subst hb
 exact wpList_lookup_at w hg m x t true hop k e K ht hk hz hm h key hx _ rfl hK
theorem wpList_lookup_v (w : World) {ops : Array Oper} {rest : List Oper} {o : Oper} {a : Act} {Q : Exit → Act → World → Prop}
  (hg : o.guard = none) (m x : Operand) (t : TypeId) (hop : o.op = Op.lookup t m x false) (k e : TypeId) (K : KeyOK d encK) (ht : P.underlying t = some (.map k e)) (hk : P.underlying k = some d) {z : Value} (hz : (zeroValue e).run P w = .ok z w)
  (hm : a.eval m = .map (some b)) (h : MapAt d encK enc w b L) (key : κ) (hx : a.eval x = encK key) (v : Value) (hv : ((mlook L key).map enc).getD z = v)
  (hK : wpList P ops Q rest (a.put o.dst v) w) : wpList P ops Q (o :: rest) a w := by
 subst hv
 exact wpList_lookup_at w hg m x t false hop k e K ht hk hz hm h key hx _ rfl hK
theorem MapAt.run_v (h : MapAt d encK enc w b L) (K : KeyOK d encK) {t k e : TypeId} (ht : P.underlying t = some (.map k e)) (hk : P.underlying k = some d) {z : Value} (hz : (zeroValue e).run P w = .ok z w) {x : κ} {v : Value} (hx : ((mlook L x).map enc).getD z = v) :
  (Instr.lookup t (.map (some b)) (encK x) false).run P w = .ok v w := by rw [h.run_lookup K ht hk hz x false]; simp only [Bool.false_eq_true, if_false]; rw [hx]
theorem wpList_insert_at (w : World) {ops : Array Oper} {rest : List Oper} {o : Oper} {a : Act} {Q : Exit → Act → World → Prop}
  (hg : o.guard = none) (m x v : Operand) (t : TypeId) (hop : o.op = Op.insert t m x v) (k e : TypeId) (K : KeyOK d encK) (ht : P.underlying t = some (.map k e)) (hk : P.underlying k = some d)
  (hm : a.eval m = .map (some b)) (h : MapAt d encK enc w b L) (key : κ) (hx : a.eval x = encK key) (val : α) (hv : a.eval v = enc val)
  (hK : ∀ w', MapAt d encK enc w' b (mput L key val) → w.grownBy w' (some b) → wpList P ops Q rest (a.put o.dst undef) w') : wpList P ops Q (o :: rest) a w := by
 refine wpList_plain hg fun K' hK' => ?_
 obtain ⟨w', hrun, r1, r2⟩ := h.run_update K ht hk key val
 unfold Oper.wp
 simp [execOp, hop, hm, hx, hv, hrun, Result.andThen]
 exact hK' _ _ (hK w' r1 r2)
omit [DecidableEq κ] in
theorem MapAt.ne_own (h : MapAt d encK enc w b L) {v : Value} {e : TypeId} (ho : ∀ k, v.ownBlock = some k → ∃ cells, w.heap[k]? = some (.cells cells e (0, 0))) : some b ≠ v.ownBlock := by
 obtain ⟨es, clock, hb, _⟩ := h
 intro he
 obtain ⟨cells, hc⟩ := ho b he.symm
 rw [hb] at hc
 cases hc
theorem wpList_mapUpdate_at (w : World) {ops : Array Oper} {rest : List Oper} {o : Oper} {a : Act} {Q : Exit → Act → World → Prop}
  (hg : o.guard = none) (m x v : Operand) (t : TypeId) (hop : o.op = Op.mapUpdate t m x v) (k e : TypeId) (K : KeyOK d encK) (ht : P.underlying t = some (.map k e)) (hk : P.underlying k = some d)
  (hm : a.eval m = .map (some b)) (h : MapAt d encK enc w b L) (key : κ) (hx : a.eval x = encK key) (val : α) (hv : a.eval v = enc val)
  (hK : ∀ w', MapAt d encK enc w' b (mput L key val) → w.grownBy w' (some b) → wpList P ops Q rest (a.put o.dst undef) w') : wpList P ops Q (o :: rest) a w := by
 refine wpList_plain hg fun K' hK' => ?_
 obtain ⟨w', hrun, r1, r2⟩ := h.run_update K ht hk key val
 unfold Oper.wp
 simp [execOp, hop, hm, hx, hv, hrun, Result.andThen]
 exact hK' _ _ (hK w' r1 r2)
end
end Go.Proofs.Ytpafhhgoldenoaa.XM
end
section
namespace Go.Proofs.Ytpafhhgoldenoaa.P
open Go.RowKit Go.Proofs.YtpafhhgoldenoaaW.PrintWords Go.Proofs.YtpafhhgoldenoaaW.PrintLast Go.Proofs.YtpafhhgoldenoaaW.PrintMore
attribute [local go_sem] max2_int min2_int max_two min_two max_three min_three max_four min_four
set_option linter.unusedVariables false
set_option linter.unusedSimpArgs false
theorem eqA51 (d : Nat) (w : World) (x0 y0 : Int) (x1 y1 : Int) :
  (Op.equalIn (d + 2) 51 (.agg #[.int .i64 x0, .int .i64 x1]) (.agg #[.int .i64 y0, .int .i64 y1])).run Try.prog w = .ok (x0 == y0 && (x1 == y1)) w := by
 refine eqA_of Try.underlying51 (by kernel_rfl) ?_
 refine eqf_cons (by rfl) (by go_simp; rfl) (by go_simp; rfl) (by go_simp) ?_
 exact eqf_last (by rfl) (by go_simp; rfl) (by go_simp; rfl) (by go_simp)
end Go.Proofs.Ytpafhhgoldenoaa.P
end
section
namespace Go.Proofs.Ytpafhhgoldenoaa.P
open Go.RowKit Go.Proofs.YtpafhhgoldenoaaW.PrintWords Go.Proofs.YtpafhhgoldenoaaW.PrintLast Go.Proofs.YtpafhhgoldenoaaW.PrintMore
open Go.Proofs.Ytpafhhgoldenoaa.XM
set_option linter.unusedVariables false
set_option linter.unusedSimpArgs false
def formedB (n : S24) : Bool := (tree_formed.f n.f0 n.f1 n.f2 n.f3 n.f4).getD false
theorem isID_f (a : Int) : tree_isID.f a = some (decide (1 ≤ a ∧ a ≤ 1000000)) := by
 unfold tree_isID.f
 by_cases h : 1 ≤ a <;> simp [h]
theorem formed_some (a0 a1 a2 a3 : Int) (a4 : ByteArray) : ∃ b, tree_formed.f a0 a1 a2 a3 a4 = some b := by
 unfold tree_formed.f text_Valid.f
 simp only [isID_f, Option.bind_some]
 repeat' split
 all_goals exact ⟨_, rfl⟩
theorem formed_f (n : S24) : tree_formed.f n.f0 n.f1 n.f2 n.f3 n.f4 = some (formedB n) := by
 obtain ⟨b, hb⟩ := formed_some n.f0 n.f1 n.f2 n.f3 n.f4
 unfold formedB
 rw [hb]; rfl
def standsB (k i : Int) : Bool := (tree_stands.f k i).getD false
theorem stands_f (k i : Int) : tree_stands.f k i = some (standsB k i) := by
 unfold standsB tree_stands.f
 repeat' split
 all_goals rfl
abbrev Places := List (Int × Int × Int)
def encP (p : Int × Int) : Value := .agg #[.int .i64 p.1, .int .i64 p.2]
def plStep (l : List S24) (i : Nat) (n : S24) (D : Places) : Option Places :=
 if formedB n = false then none
 else if (mlook D n.f0).getD (0, 0) ≠ (0, 0) then none
 else if 0 < i ∧ (mlook D n.f1 = none ∨ standsB n.f2 (rd_T24 l ((mlook D n.f1).getD (0, 0)).1).f2 = false) then none
 else if ((mlook D n.f1).getD (0, 0)).2 = 30 then none
 else some (mput D n.f0 ((i : Int), ((mlook D n.f1).getD (0, 0)).2 + 1))
def plGo (l : List S24) : Nat → List S24 → Places → Option Places
 | _, [], D => some D
 | i, n :: r, D => (plStep l i n D).bind (plGo l (i + 1) r)
def placesP (l : List S24) : Option Places :=
 if l.length < 1 ∨ 4000 < l.length ∨ (rd_T24 l 0).f1 ≠ 0 ∨ (rd_T24 l 0).f2 ≠ 1 then none else plGo l 0 l []
def PlacesPost (l : List S24) (w : World) (e : Ending) (w' : World) : Prop :=
 Below w.heap.size w w' ∧ match placesP l with
  | none => e = .returned (.tuple #[.map none, .bool false])
  | some D => ∃ b, e = .returned (.tuple #[.map (some b), .bool true]) ∧ MapAt (.int .i64) (Value.int .i64) encP w' b D
def PInv (k : Nat) (D : Places) : Prop := ∀ x v, mlook D x = some v → 0 ≤ v.1 ∧ v.1 < k ∧ 1 ≤ v.2 ∧ v.2 ≤ 30
theorem zero51 (w : World) : (zeroValue 51).run Try.prog w = .ok (.agg #[.int .i64 0, .int .i64 0]) w := by kernel_rfl
attribute [local go_sem] encP
attribute [local go_sem high] eqA51
def places_r.T8 : Bool × List (List Nat × List Nat) := (true, [([], []), ([0], [0]), ([1], [1]), ([2, 1], [2]), ([3], [3]), ([3], [3]), ([5, 3], [3, 5]), ([4, 6, 3], [3, 4, 6]), ([3], [3]), ([7, 8, 3], [3, 7, 8]), ([3, 9], [3, 9]), ([10, 3], [10]), ([11], [11]), ([12, 11], [11, 12]), ([13, 11, 11], [11, 13]), ([14], [14]), ([15, 14], [14, 15]), ([16, 14, 14], [14, 16]), ([17], [17]), ([18, 17], [17, 18]), ([17], [17]), ([17], [17]), ([21, 17], [17, 21]), ([20, 22, 17], [17, 20, 22]), ([23, 17], [17, 23]), ([24, 17], [17, 24]), ([19, 25, 17, 17], [17, 19, 25]), ([26, 17], [17, 26]), ([17, 27, 14], [14, 17, 27]), ([14, 28, 11], [11, 14, 28]), ([11, 29], [11, 29]), ([30, 26], [30]), ([31], [31]), ([32, 31], [31, 32]), ([33, 31], [31, 33]), ([31, 34], [31, 34])])
def places_r.B8 : List Nat := [0, 1, 3, 7, 15, 15, 47, 127, 15, 511, 1023, 2047, 4095, 8191, 16383, 32767, 65535, 131071, 262143, 524287, 262143, 262143, 2359295, 7602175, 15990783, 32767999, 67108863, 134217727, 268435455, 536870911, 1073741823, 2147483647, 4294967295, 8589934591, 17179869183, 34359738367]
theorem places_r.tab8 : rtab .any (opsOf Try.f31 8) = places_r.T8 := by kernel_rfl
theorem places_r.bits8 : waitsOk places_r.T8.2 places_r.B8 = true := by kernel_rfl
theorem drop_cons (l : List S24) (k : Nat) (h : k < l.length) : l.drop k = rd_T24 l k :: l.drop (k + 1) := by
 rw [List.drop_eq_getElem_cons h]
 congr 1
 simp [rd_T24, h]
set_option maxHeartbeats 2000000 in
set_option maxRecDepth 100000 in
theorem places_calls (A : Option Addr) (c : Nat) (l : List S24) (w : World) (hr : Kd.C k24 w A l.length l) (hc : l.length ≤ c) :
  Calls Try.prog 31 #[.slice A l.length c] w (PlacesPost l w) := by
 have hu24 := Try.underlying24
 have HR := Aside0.mk hr
 clear hr
 have hmm := @run_makeMap Try.prog
 by_cases h1 : l.length < 1
 ·have hn : Hid (placesP l = none) := by show _ = _; unfold placesP; rw [if_pos (.inl h1)]
  have h1c : decide (l.length < 1) = true := decide_eq_true h1
  go_enter Try.func31, Try.ntmps31
  go_wp2
  go_ret2
  exact ⟨Below.refl _ _, by rw [hn.out]; rfl⟩
 have h1c : decide ((l.length : Int) < 1) = false := decide_eq_false (by omega)
 by_cases h2 : 4000 < l.length
 ·have hn : Hid (placesP l = none) := by show _ = _; unfold placesP; rw [if_pos (.inr (.inl h2))]
  have h2c : decide (4000 < l.length) = true := decide_eq_true h2
  go_enter Try.func31, Try.ntmps31
  go_wp2
  go_ret2
  exact ⟨Below.refl _ _, by rw [hn.out]; rfl⟩
 have h2c : decide (4000 < (l.length : Int)) = false := decide_eq_false (by omega)
 obtain ⟨ad, e, x0, x1, x2, x3, x4⟩ := at_T24 HR.out 0 (by omega) (by omega)
 subst e
 have e0 : ad.add (Int.toNat 0 * 5) = ad := rfl
 rw [e0] at x0 x1 x2 x3 x4
 clear e0
 have hl0 : (0 : Int) < (l.length : Int) := by omega
 by_cases h3 : (rd_T24 l 0).f1 = 0
 ·have h3c : ((rd_T24 l 0).f1 != 0) = false := by simpa using h3
  by_cases h4 : (rd_T24 l 0).f2 = 1
  ·have h4c : ((rd_T24 l 0).f2 != 1) = false := by simpa using h4
   have hgo : Hid (placesP l = plGo l 0 l []) := by
    show _ = _
    unfold placesP; rw [if_neg (by rintro (h | h | h | h); exact h1 h; exact h2 h; exact h h3; exact h h4)]
   clear h3 h4
   go_enter Try.func31, Try.ntmps31
   go_wp2
   clear x0 x1 x2 x3 x4 h1c h2c h3c h4c
   go_loopw [34] (fun i wr => ∃ (k : Nat) (D : Places), i = .int .i64 k ∧ k ≤ l.length ∧ Aside0 (MapAt (.int .i64) (Value.int .i64) encP wr w.heap.size D) ∧ Aside0 (plGo l k (l.drop k) D = placesP l) ∧ Aside0 (PInv k D) ∧ Aside0 (Below w.heap.size w wr)) (fun i _ => l.length - (intOf i).toNat)
   case atStart => exact ⟨0, [], rfl, by omega, ⟨MapAt.made w⟩, ⟨hgo.out.symm⟩, ⟨fun x v h => by simp [mlook_nil] at h⟩, ⟨(Below.refl _ _).alloc (Nat.le_refl _) _⟩⟩
   case round =>
    obtain ⟨k, D, rfl, hk, HM, HG, HI, HB⟩ := hrel
    by_cases hlt : k < l.length
    ·obtain ⟨ad', e, x0, x1, x2, x3, x4⟩ := at_T24 (Kd.C_below HR.out HB.out) k (by omega) (by omega)
     cases e
     simp only [Int.toNat_natCast] at x0 x1 x2 x3 x4
     obtain ⟨n, hn⟩ : ∃ n, n = rd_T24 l k := ⟨_, rfl⟩
     rw [← hn] at x0 x1 x2 x3 x4
     have Hn := Aside0.mk hn
     clear hn
     obtain ⟨p1, hp1⟩ : ∃ p1, p1 = ((mlook D n.f1).getD (0, 0)).1 := ⟨_, rfl⟩
     obtain ⟨p2, hp2⟩ : ∃ p2, p2 = ((mlook D n.f1).getD (0, 0)).2 := ⟨_, rfl⟩
     obtain ⟨pb, hpb⟩ : ∃ pb, pb = (mlook D n.f1).isSome := ⟨_, rfl⟩
     obtain ⟨q1, hq1⟩ : ∃ q1, q1 = ((mlook D n.f0).getD (0, 0)).1 := ⟨_, rfl⟩
     obtain ⟨q2, hq2⟩ : ∃ q2, q2 = ((mlook D n.f0).getD (0, 0)).2 := ⟨_, rfl⟩
     have hpv : Aside0 (((mlook D n.f1).map encP).getD (.agg #[.int .i64 0, .int .i64 0]) = .agg #[.int .i64 p1, .int .i64 p2]) := ⟨by rw [hp1, hp2]; cases mlook D n.f1 <;> rfl⟩
     have hqv : Aside0 (((mlook D n.f0).map encP).getD (.agg #[.int .i64 0, .int .i64 0]) = .agg #[.int .i64 q1, .int .i64 q2]) := ⟨by rw [hq1, hq2]; cases mlook D n.f0 <;> rfl⟩
     have Hp1 := Aside0.mk hp1; clear hp1
     have Hp2 := Aside0.mk hp2; clear hp2
     have Hpb := Aside0.mk hpb; clear hpb
     have Hq1 := Aside0.mk hq1; clear hq1
     have Hq2 := Aside0.mk hq2; clear hq2
     go_wp2_with (first | (at_lookup; refine wpList_lookup_ok _ rfl _ _ 46 rfl 3 51 (KeyOK.int .i64) Try.underlying46 Try.underlying3 (zero51 _) rfl (HM.out.alloc _) _ rfl _ hpv.out _ Hpb.out.symm ?_))
     have y0 : ((wr.alloc (.cells #[.int .i64 n.f0, .int .i64 n.f1, .int .i64 n.f2, .int .i64 n.f3, .string n.f4] 24)).alloc (.cells #[.int .i64 p1, .int .i64 p2] 51)).heap[wr.heap.size]? = some (.cells #[.int .i64 n.f0, .int .i64 n.f1, .int .i64 n.f2, .int .i64 n.f3, .string n.f4] 24) := by
      rw [Below.heap_alloc _ _ _ (by simp)]; simpa using heap_alloc_new wr _
     have y1 : ((wr.alloc (.cells #[.int .i64 n.f0, .int .i64 n.f1, .int .i64 n.f2, .int .i64 n.f3, .string n.f4] 24)).alloc (.cells #[.int .i64 p1, .int .i64 p2] 51)).heap[wr.heap.size + 1]? = some (.cells #[.int .i64 p1, .int .i64 p2] 51) := by
      have := heap_alloc_new (wr.alloc (.cells #[.int .i64 n.f0, .int .i64 n.f1, .int .i64 n.f2, .int .i64 n.f3, .string n.f4] 24)) (.cells #[.int .i64 p1, .int .i64 p2] 51)
      simpa using this
     have yM := Aside0.mk ((HM.out.alloc (.cells #[.int .i64 n.f0, .int .i64 n.f1, .int .i64 n.f2, .int .i64 n.f3, .string n.f4] 24)).alloc (.cells #[.int .i64 p1, .int .i64 p2] 51))
     have yB := Aside0.mk (below_alloc (below_alloc HB.out (.cells #[.int .i64 n.f0, .int .i64 n.f1, .int .i64 n.f2, .int .i64 n.f3, .string n.f4] 24)) (.cells #[.int .i64 p1, .int .i64 p2] 51))
     clear x0 x1 x2 x3 x4 HM HB
     generalize ((wr.alloc (.cells #[.int .i64 n.f0, .int .i64 n.f1, .int .i64 n.f2, .int .i64 n.f3, .string n.f4] 24)).alloc (.cells #[.int .i64 p1, .int .i64 p2] 51)) = W at y0 y1 yM yB ⊢
     generalize wr.heap.size = g at y0 y1 ⊢
     have z0 : W.cell? ⟨g, 0, none⟩ = some (.int .i64 n.f0) := blk_cell y0 0
     have z1 : W.cell? ⟨g, 1, none⟩ = some (.int .i64 n.f1) := blk_cell y0 1
     have z2 : W.cell? ⟨g, 2, none⟩ = some (.int .i64 n.f2) := blk_cell y0 2
     have z3 : W.cell? ⟨g, 3, none⟩ = some (.int .i64 n.f3) := blk_cell y0 3
     have z4 : W.cell? ⟨g, 4, none⟩ = some (.string n.f4) := blk_cell y0 4
     have zp0 : W.cell? ⟨g + 1, 0, none⟩ = some (.int .i64 p1) := blk_cell y1 0
     have zp1 : W.cell? ⟨g + 1, 1, none⟩ = some (.int .i64 p2) := blk_cell y1 1
     have hg5 : g < W.heap.size := blk_lt y0
     have hg6 : g + 1 < W.heap.size := blk_lt y1
     have HY0 := Aside0.mk y0
     have HY1 := Aside0.mk y1
     clear y0 y1
     by_cases hf : formedB n = true
     ·have hff : Aside0 (tree_formed.f n.f0 n.f1 n.f2 n.f3 n.f4 = some true) := ⟨by rw [formed_f, hf]⟩
      by_cases hd : mlook D n.f0 = none
      ·obtain rfl : q1 = 0 := by rw [Hq1.out, hd]; rfl
       obtain rfl : q2 = 0 := by rw [Hq2.out, hd]; rfl
       have hp30 : p2 + 1 ≤ 31 ∧ 0 ≤ p2 := by
        rw [Hp2.out]
        cases hm : mlook D n.f1 with
        | none => simp
        | some v => have := HI.out _ _ hm; simp only [Option.getD_some]; omega
       by_cases hk0 : k = 0
       ·have hst : Aside0 ((0 < k ∧ (mlook D n.f1 = none ∨ standsB n.f2 (rd_T24 l ((mlook D n.f1).getD (0, 0)).1).f2 = false)) = False) := ⟨by simp [hk0]⟩
        have hk0b : decide (0 < k) = false := decide_eq_false (by omega)
        have hk0c : decide (0 < (k : Int)) = false := decide_eq_false (by omega)
        have HK0 := Aside0.mk hk0
        clear hk0
        refine start_ (n := 36) (S := fun w' => w'.cell? ⟨g, 0, none⟩ = some (.int .i64 n.f0) ∧ w'.cell? ⟨g, 1, none⟩ = some (.int .i64 n.f1) ∧ w'.cell? ⟨g, 2, none⟩ = some (.int .i64 n.f2) ∧ w'.cell? ⟨g, 3, none⟩ = some (.int .i64 n.f3) ∧ w'.cell? ⟨g, 4, none⟩ = some (.string n.f4) ∧ w'.cell? ⟨g + 1, 0, none⟩ = some (.int .i64 p1) ∧ w'.cell? ⟨g + 1, 1, none⟩ = some (.int .i64 p2) ∧ (Instr.lookup 46 (.map (some w.heap.size)) (.int .i64 n.f0) false).run Try.prog w' = .ok (.agg #[.int .i64 0, .int .i64 0]) w') (ds := []) #[false, false, false, false, false, false, false, false, false, false, false, false, false, false, false, false, false, false, false, false, false, false, false, false, false, false, false, false, false, false, false, false, false, false, false, false] (by kernel_rfl) rfl rfl ⟨(((below_drew1 (Below.refl W.heap.size W)).cell (p := ⟨g, 0, none⟩) hg5).trans z0), (((below_drew1 (Below.refl W.heap.size W)).cell (p := ⟨g, 1, none⟩) hg5).trans z1), (((below_drew1 (Below.refl W.heap.size W)).cell (p := ⟨g, 2, none⟩) hg5).trans z2), (((below_drew1 (Below.refl W.heap.size W)).cell (p := ⟨g, 3, none⟩) hg5).trans z3), (((below_drew1 (Below.refl W.heap.size W)).cell (p := ⟨g, 4, none⟩) hg5).trans z4), (((below_drew1 (Below.refl W.heap.size W)).cell (p := ⟨g + 1, 0, none⟩) hg6).trans zp0), (((below_drew1 (Below.refl W.heap.size W)).cell (p := ⟨g + 1, 1, none⟩) hg6).trans zp1), ((yM.out.below (below_drew1 (Below.refl W.heap.size W))).run_v (KeyOK.int .i64) Try.underlying46 Try.underlying3 (zero51 _) hqv.out)⟩ (fun hHeld => ?_)
        refine with_tabW places_r.tab8 places_r.bits8 (fun HT_ HW_ => ?_)
        refine tz_ 0 (some 46) hHeld ?_
        refine oz_ 1 (some 47) (fun K hK => ?_)
        refine goes_ Try.func42 (by kernel_rfl) rfl #[.agg #[.int .i64 n.f0, .int .i64 n.f1, .int .i64 n.f2, .int .i64 n.f3, .string n.f4]] (by rfl) rfl rfl z26_ ?_
        with_reducible refine (tree_formed.calls n.f0 n.f1 n.f2 n.f3 n.f4 true _ hff.out).mono ?_
        rintro e w3 ⟨rfl, hbf⟩
        refine ⟨_, rfl, ?_⟩
        have hb3 : Below W.heap.size W w3 := (below_drew1 (Below.refl _ W)).trans hbf
        refine hK.out _ _ ⟨((hb3.cell (p := ⟨g, 0, none⟩) hg5).trans z0), ((hb3.cell (p := ⟨g, 1, none⟩) hg5).trans z1), ((hb3.cell (p := ⟨g, 2, none⟩) hg5).trans z2), ((hb3.cell (p := ⟨g, 3, none⟩) hg5).trans z3), ((hb3.cell (p := ⟨g, 4, none⟩) hg5).trans z4), ((hb3.cell (p := ⟨g + 1, 0, none⟩) hg6).trans zp0), ((hb3.cell (p := ⟨g + 1, 1, none⟩) hg6).trans zp1), ((yM.out.below hb3).run_v (KeyOK.int .i64) Try.underlying46 Try.underlying3 (zero51 _) hqv.out)⟩ (fun hHeld => ?_)
        clear hK K
        refine norm_ (a' := ?_) ?_ ?_
        rotate_left
        ·show Act.put _ (some 47) _ = _
         simp only [Act.put, List.setIfInBounds_toArray, List.set_cons_zero, List.set_cons_succ, i64_w, i32_w]
         rfl
        refine pz_ 2 (some 48) ?_
        refine pz_ 3 (some 49) ?_
        refine pz_ 4 (some 50) ?_
        refine pz_ 5 (some 51) ?_
        refine pz_ 8 (some 54) ?_
        refine tz_ 6 (some 52) hHeld ?_
        refine tz_ 7 (some 53) hHeld ?_
        refine pz_ 9 (some 55) ?_
        refine pz_ 10 (some 56) ?_
        refine pz_ 11 (some 57) ?_
        refine pz_ 12 (some 58) ?_
        refine pz_ 13 (some 59) ?_
        refine pz_ 14 (some 60) ?_
        refine pn_ 15 (some 61) ?_
        refine pn_ 16 (some 62) ?_
        refine pn_ 17 (some 63) ?_
        refine pn_ 18 (some 64) ?_
        refine pn_ 19 (some 65) ?_
        refine pn_ 20 (some 66) ?_
        refine pn_ 21 (some 67) ?_
        refine pn_ 22 (some 68) ?_
        refine pn_ 23 (some 69) ?_
        refine pn_ 24 (some 70) ?_
        refine pn_ 25 (some 71) ?_
        refine pn_ 26 (some 72) ?_
        refine pn_ 27 (some 73) ?_
        refine pn_ 28 (some 74) ?_
        refine pz_ 29 (some 75) ?_
        refine pz_ 30 (some 76) ?_
        refine pz_ 31 (some 77) ?_
        refine pz_ 32 (some 78) ?_
        refine tz_ 33 (some 79) hHeld ?_
        refine pz_ 34 (some 80) ?_
        refine pz_ 35 (some 81) ?_
        refine done_ (done_of HT_.out (by kernel_rfl)) ?_

        by_cases h30 : p2 = 30
        ·have h30b : (p2 == 30) = true := by simpa using h30
         have hno : Aside0 (placesP l = none) := ⟨by
          rw [← HG.out, drop_cons l k hlt, ← Hn.out]
          simp only [plGo, plStep, hf]
          rw [if_neg (by simp), if_neg (by rw [hd]; simp), if_neg (by rw [hst.out]; simp), if_pos (by rw [← Hp2.out, h30])]
          rfl⟩
         clear hd h30
         go_wp2
         go_ret2
         exact ⟨yB.out.trans (hb3.mono yB.out.size), by rw [hno.out]; rfl⟩
        ·have h30b : (p2 == 30) = false := by simpa using h30
         have hyes : Aside0 (plGo l (k + 1) (l.drop (k + 1)) (mput D n.f0 ((k : Int), p2 + 1)) = placesP l) := ⟨by
          rw [← HG.out, drop_cons l k hlt, ← Hn.out]
          conv => rhs; simp only [plGo, plStep, hf]
          rw [if_neg (by simp), if_neg (by rw [hd]; simp), if_neg (by rw [hst.out]; simp), if_neg (by rw [← Hp2.out]; exact h30), ← Hp2.out]
          rfl⟩
         have hinv : Aside0 (PInv (k + 1) (mput D n.f0 ((k : Int), p2 + 1))) := ⟨by
          intro x v hx
          rw [mlook_mput] at hx
          by_cases e : n.f0 = x
          ·rw [if_pos e] at hx
           obtain rfl := (Option.some.inj hx).symm
           refine ⟨?_, ?_, ?_, ?_⟩ <;> simp <;> omega
          ·rw [if_neg e] at hx
           have := HI.out x v hx
           omega⟩
         have zq0 := (hb3.cell (p := ⟨g, 0, none⟩) hg5).trans z0
         have zq1 := (hb3.cell (p := ⟨g + 1, 1, none⟩) hg6).trans zp1
         have yM2 := Aside0.mk (yM.out.below hb3)
         have yB2 := Aside0.mk (yB.out.trans (hb3.mono yB.out.size))
         clear hd h30 z0 z1 z2 z3 z4 zp0 zp1
         go_wp2_with (first | (at_mapUpdate; refine wpList_mapUpdate_at _ rfl _ _ _ 46 rfl 3 51 (KeyOK.int .i64) Try.underlying46 Try.underlying3 rfl yM2.out _ rfl ((k : Int), p2 + 1) rfl ?_; intro w5 hM5 hgr5; have HM5 := Aside0.mk hM5; have HB5 := Aside0.mk (Below.grown yB2.out hgr5 yB2.out.size (fun j hj => by cases hj; exact Nat.le_refl _)); clear hM5 hgr5))
         go_roundw
         case rel => exact ⟨k + 1, _, by go_num, by omega, HM5, hyes, hinv, HB5⟩
         case measure => simp [intOf]; omega
       ·have hk0b : decide (0 < k) = true := decide_eq_true (by omega)
        have hk0c : decide (0 < (k : Int)) = true := decide_eq_true (by omega)
        cases pb with
        | false =>
         have hno : Aside0 (placesP l = none) := ⟨by
          rw [← HG.out, drop_cons l k hlt, ← Hn.out]
          simp only [plGo, plStep, hf]
          rw [if_neg (by simp), if_neg (by rw [hd]; simp), if_pos ⟨by omega, .inl (by simpa using Hpb.out.symm)⟩]
          rfl⟩
         clear hd
         refine start_ (n := 36) (S := fun w' => w'.cell? ⟨g, 0, none⟩ = some (.int .i64 n.f0) ∧ w'.cell? ⟨g, 1, none⟩ = some (.int .i64 n.f1) ∧ w'.cell? ⟨g, 2, none⟩ = some (.int .i64 n.f2) ∧ w'.cell? ⟨g, 3, none⟩ = some (.int .i64 n.f3) ∧ w'.cell? ⟨g, 4, none⟩ = some (.string n.f4) ∧ w'.cell? ⟨g + 1, 0, none⟩ = some (.int .i64 p1) ∧ w'.cell? ⟨g + 1, 1, none⟩ = some (.int .i64 p2) ∧ (Instr.lookup 46 (.map (some w.heap.size)) (.int .i64 n.f0) false).run Try.prog w' = .ok (.agg #[.int .i64 0, .int .i64 0]) w') (ds := []) #[false, false, false, false, false, false, false, false, false, false, false, false, false, false, false, false, false, false, false, false, false, false, false, false, false, false, false, false, false, false, false, false, false, false, false, false] (by kernel_rfl) rfl rfl ⟨(((below_drew1 (Below.refl W.heap.size W)).cell (p := ⟨g, 0, none⟩) hg5).trans z0), (((below_drew1 (Below.refl W.heap.size W)).cell (p := ⟨g, 1, none⟩) hg5).trans z1), (((below_drew1 (Below.refl W.heap.size W)).cell (p := ⟨g, 2, none⟩) hg5).trans z2), (((below_drew1 (Below.refl W.heap.size W)).cell (p := ⟨g, 3, none⟩) hg5).trans z3), (((below_drew1 (Below.refl W.heap.size W)).cell (p := ⟨g, 4, none⟩) hg5).trans z4), (((below_drew1 (Below.refl W.heap.size W)).cell (p := ⟨g + 1, 0, none⟩) hg6).trans zp0), (((below_drew1 (Below.refl W.heap.size W)).cell (p := ⟨g + 1, 1, none⟩) hg6).trans zp1), ((yM.out.below (below_drew1 (Below.refl W.heap.size W))).run_v (KeyOK.int .i64) Try.underlying46 Try.underlying3 (zero51 _) hqv.out)⟩ (fun hHeld => ?_)
         refine with_tabW places_r.tab8 places_r.bits8 (fun HT_ HW_ => ?_)
         refine tz_ 0 (some 46) hHeld ?_
         refine oz_ 1 (some 47) (fun K hK => ?_)
         refine goes_ Try.func42 (by kernel_rfl) rfl #[.agg #[.int .i64 n.f0, .int .i64 n.f1, .int .i64 n.f2, .int .i64 n.f3, .string n.f4]] (by rfl) rfl rfl z26_ ?_
         with_reducible refine (tree_formed.calls n.f0 n.f1 n.f2 n.f3 n.f4 true _ hff.out).mono ?_
         rintro e w3 ⟨rfl, hbf⟩
         refine ⟨_, rfl, ?_⟩
         have hb3 : Below W.heap.size W w3 := (below_drew1 (Below.refl _ W)).trans hbf
         refine hK.out _ _ ⟨((hb3.cell (p := ⟨g, 0, none⟩) hg5).trans z0), ((hb3.cell (p := ⟨g, 1, none⟩) hg5).trans z1), ((hb3.cell (p := ⟨g, 2, none⟩) hg5).trans z2), ((hb3.cell (p := ⟨g, 3, none⟩) hg5).trans z3), ((hb3.cell (p := ⟨g, 4, none⟩) hg5).trans z4), ((hb3.cell (p := ⟨g + 1, 0, none⟩) hg6).trans zp0), ((hb3.cell (p := ⟨g + 1, 1, none⟩) hg6).trans zp1), ((yM.out.below hb3).run_v (KeyOK.int .i64) Try.underlying46 Try.underlying3 (zero51 _) hqv.out)⟩ (fun hHeld => ?_)
         clear hK K
         refine norm_ (a' := ?_) ?_ ?_
         rotate_left
         ·show Act.put _ (some 47) _ = _
          simp only [Act.put, List.setIfInBounds_toArray, List.set_cons_zero, List.set_cons_succ, i64_w, i32_w]
          rfl
         refine pz_ 2 (some 48) ?_
         refine pz_ 3 (some 49) ?_
         refine pz_ 4 (some 50) ?_
         refine pz_ 5 (some 51) ?_
         refine pz_ 8 (some 54) ?_
         refine tz_ 6 (some 52) hHeld ?_
         refine tz_ 7 (some 53) hHeld ?_
         refine pz_ 9 (some 55) ?_
         refine pz_ 10 (some 56) ?_
         refine pz_ 11 (some 57) ?_
         refine pz_ 12 (some 58) ?_
         refine pz_ 13 (some 59) ?_
         refine pz_ 14 (some 60) ?_
         refine pz_ 15 (some 61) ?_
         refine pz_ 16 (some 62) ?_
         refine pz_ 17 (some 63) ?_
         refine pn_ 18 (some 64) ?_
         refine pn_ 19 (some 65) ?_
         refine pn_ 20 (some 66) ?_
         refine pn_ 21 (some 67) ?_
         refine pn_ 22 (some 68) ?_
         refine pn_ 23 (some 69) ?_
         refine pn_ 24 (some 70) ?_
         refine pn_ 25 (some 71) ?_
         refine pn_ 26 (some 72) ?_
         refine pn_ 27 (some 73) ?_
         refine pz_ 28 (some 74) ?_
         refine pz_ 29 (some 75) ?_
         refine pz_ 30 (some 76) ?_
         refine pz_ 31 (some 77) ?_
         refine pn_ 32 (some 78) ?_
         refine pn_ 33 (some 79) ?_
         refine pn_ 34 (some 80) ?_
         refine pz_ 35 (some 81) ?_
         refine done_ (done_of HT_.out (by kernel_rfl)) ?_

         go_wp2
         go_ret2
         exact ⟨yB.out.trans (hb3.mono yB.out.size), by rw [hno.out]; rfl⟩
        | true =>
         obtain ⟨v, hv⟩ := Option.isSome_iff_exists.1 Hpb.out.symm
         have hvI := HI.out _ _ hv
         have hp1 : p1 = v.1 := by rw [Hp1.out, hv]; rfl
         have hp1a : 0 ≤ p1 := by omega
         have hp1b : p1 < (l.length : Int) := by omega
         obtain ⟨ad2, e2, _, _, zk, _, _⟩ := at_T24 (Kd.C_below HR.out yB.out) p1 hp1a hp1b
         obtain rfl : ad = ad2 := by injection e2
         clear e2
         obtain ⟨kk, hkk⟩ : ∃ kk, kk = (rd_T24 l p1).f2 := ⟨_, rfl⟩
         rw [← hkk] at zk
         have Hkk := Aside0.mk hkk
         have HP1 := Aside0.mk hp1
         have HV := Aside0.mk hv
         have hp1c := eq_true hp1a
         have hp1d := eq_true hp1b
         have hp1e : decide (0 ≤ p1) = true := decide_eq_true hp1a
         have hp1f : decide (p1 < (l.length : Int)) = true := decide_eq_true hp1b
         clear hkk hp1 hv hvI
         by_cases hs : standsB n.f2 kk = true
         ·have hst : Aside0 (tree_stands.f n.f2 kk = some true) := ⟨by rw [stands_f, hs]⟩
          have hsf : Aside0 ((0 < k ∧ (mlook D n.f1 = none ∨ standsB n.f2 (rd_T24 l ((mlook D n.f1).getD (0, 0)).1).f2 = false)) = False) := ⟨by rw [← Hp1.out, ← Hkk.out, hs, HV.out]; simp⟩
          refine start_ (n := 36) (S := fun w' => w'.cell? ⟨g, 0, none⟩ = some (.int .i64 n.f0) ∧ w'.cell? ⟨g, 1, none⟩ = some (.int .i64 n.f1) ∧ w'.cell? ⟨g, 2, none⟩ = some (.int .i64 n.f2) ∧ w'.cell? ⟨g, 3, none⟩ = some (.int .i64 n.f3) ∧ w'.cell? ⟨g, 4, none⟩ = some (.string n.f4) ∧ w'.cell? ⟨g + 1, 0, none⟩ = some (.int .i64 p1) ∧ w'.cell? ⟨g + 1, 1, none⟩ = some (.int .i64 p2) ∧ (Instr.lookup 46 (.map (some w.heap.size)) (.int .i64 n.f0) false).run Try.prog w' = .ok (.agg #[.int .i64 0, .int .i64 0]) w' ∧ w'.cell? ⟨(ad.add (p1.toNat * 5)).block, (ad.add (p1.toNat * 5)).off + 2, none⟩ = some (.int .i64 kk)) (ds := []) #[false, false, false, false, false, false, false, false, false, false, false, false, false, false, false, false, false, false, false, false, false, false, false, false, false, false, false, false, false, false, false, false, false, false, false, false] (by kernel_rfl) rfl rfl ⟨(((below_drew1 (Below.refl W.heap.size W)).cell (p := ⟨g, 0, none⟩) hg5).trans z0), (((below_drew1 (Below.refl W.heap.size W)).cell (p := ⟨g, 1, none⟩) hg5).trans z1), (((below_drew1 (Below.refl W.heap.size W)).cell (p := ⟨g, 2, none⟩) hg5).trans z2), (((below_drew1 (Below.refl W.heap.size W)).cell (p := ⟨g, 3, none⟩) hg5).trans z3), (((below_drew1 (Below.refl W.heap.size W)).cell (p := ⟨g, 4, none⟩) hg5).trans z4), (((below_drew1 (Below.refl W.heap.size W)).cell (p := ⟨g + 1, 0, none⟩) hg6).trans zp0), (((below_drew1 (Below.refl W.heap.size W)).cell (p := ⟨g + 1, 1, none⟩) hg6).trans zp1), ((yM.out.below (below_drew1 (Below.refl W.heap.size W))).run_v (KeyOK.int .i64) Try.underlying46 Try.underlying3 (zero51 _) hqv.out), (((below_drew1 (Below.refl W.heap.size W)).cell (p := ⟨(ad.add (p1.toNat * 5)).block, (ad.add (p1.toNat * 5)).off + 2, none⟩) (World.block_lt_of_cell? W _ zk)).trans zk)⟩ (fun hHeld => ?_)
          refine with_tabW places_r.tab8 places_r.bits8 (fun HT_ HW_ => ?_)
          refine tz_ 0 (some 46) hHeld ?_
          refine oz_ 1 (some 47) (fun K hK => ?_)
          refine goes_ Try.func42 (by kernel_rfl) rfl #[.agg #[.int .i64 n.f0, .int .i64 n.f1, .int .i64 n.f2, .int .i64 n.f3, .string n.f4]] (by rfl) rfl rfl z26_ ?_
          with_reducible refine (tree_formed.calls n.f0 n.f1 n.f2 n.f3 n.f4 true _ hff.out).mono ?_
          rintro e w3 ⟨rfl, hbf⟩
          refine ⟨_, rfl, ?_⟩
          have hb3 : Below W.heap.size W w3 := (below_drew1 (Below.refl _ W)).trans hbf
          refine hK.out _ _ ⟨((hb3.cell (p := ⟨g, 0, none⟩) hg5).trans z0), ((hb3.cell (p := ⟨g, 1, none⟩) hg5).trans z1), ((hb3.cell (p := ⟨g, 2, none⟩) hg5).trans z2), ((hb3.cell (p := ⟨g, 3, none⟩) hg5).trans z3), ((hb3.cell (p := ⟨g, 4, none⟩) hg5).trans z4), ((hb3.cell (p := ⟨g + 1, 0, none⟩) hg6).trans zp0), ((hb3.cell (p := ⟨g + 1, 1, none⟩) hg6).trans zp1), ((yM.out.below hb3).run_v (KeyOK.int .i64) Try.underlying46 Try.underlying3 (zero51 _) hqv.out), ((hb3.cell (p := ⟨(ad.add (p1.toNat * 5)).block, (ad.add (p1.toNat * 5)).off + 2, none⟩) (World.block_lt_of_cell? W _ zk)).trans zk)⟩ (fun hHeld => ?_)
          clear hK K
          refine norm_ (a' := ?_) ?_ ?_
          rotate_left
          ·show Act.put _ (some 47) _ = _
           simp only [Act.put, List.setIfInBounds_toArray, List.set_cons_zero, List.set_cons_succ, i64_w, i32_w]
           rfl
          refine pz_ 2 (some 48) ?_
          refine pz_ 3 (some 49) ?_
          refine pz_ 4 (some 50) ?_
          refine pz_ 5 (some 51) ?_
          refine pz_ 8 (some 54) ?_
          refine tz_ 6 (some 52) hHeld ?_
          refine tz_ 7 (some 53) hHeld ?_
          refine pz_ 9 (some 55) ?_
          refine pz_ 10 (some 56) ?_
          refine pz_ 11 (some 57) ?_
          refine pz_ 12 (some 58) ?_
          refine pz_ 13 (some 59) ?_
          refine pz_ 14 (some 60) ?_
          refine pz_ 15 (some 61) ?_
          refine pz_ 16 (some 62) ?_
          refine pz_ 17 (some 63) ?_
          refine pz_ 18 (some 64) ?_
          refine pz_ 20 (some 66) ?_
          refine pz_ 21 (some 67) ?_
          refine tz_ 19 (some 65) hHeld ?_
          refine tz_ 22 (some 68) hHeld ?_
          refine pz_ 23 (some 69) ?_
          refine pz_ 24 (some 70) ?_
          refine tz_ 25 (some 71) hHeld ?_
          refine oz_ 26 (some 72) (fun K hK => ?_)
          refine goes_ Try.func44 (by kernel_rfl) rfl #[.int .i64 n.f2, .int .i64 kk] (by rfl) rfl rfl z26_ ?_
          with_reducible refine (tree_stands.calls n.f2 kk true _ hst.out).mono ?_
          rintro e w4 ⟨rfl, hds⟩
          refine ⟨_, rfl, ?_⟩
          have hb4 : Below W.heap.size W w4 := hb3.trans (hds.below.mono hb3.size)
          refine hK.out _ _ ⟨((hb4.cell (p := ⟨g, 0, none⟩) hg5).trans z0), ((hb4.cell (p := ⟨g, 1, none⟩) hg5).trans z1), ((hb4.cell (p := ⟨g, 2, none⟩) hg5).trans z2), ((hb4.cell (p := ⟨g, 3, none⟩) hg5).trans z3), ((hb4.cell (p := ⟨g, 4, none⟩) hg5).trans z4), ((hb4.cell (p := ⟨g + 1, 0, none⟩) hg6).trans zp0), ((hb4.cell (p := ⟨g + 1, 1, none⟩) hg6).trans zp1), ((yM.out.below hb4).run_v (KeyOK.int .i64) Try.underlying46 Try.underlying3 (zero51 _) hqv.out), ((hb4.cell (p := ⟨(ad.add (p1.toNat * 5)).block, (ad.add (p1.toNat * 5)).off + 2, none⟩) (World.block_lt_of_cell? W _ zk)).trans zk)⟩ (fun hHeld => ?_)
          clear hK K
          refine norm_ (a' := ?_) ?_ ?_
          rotate_left
          ·show Act.put _ (some 72) _ = _
           simp only [Act.put, List.setIfInBounds_toArray, List.set_cons_zero, List.set_cons_succ, i64_w, i32_w]
           rfl
          refine pz_ 27 (some 73) ?_
          refine pz_ 28 (some 74) ?_
          refine pz_ 29 (some 75) ?_
          refine pz_ 30 (some 76) ?_
          refine pz_ 31 (some 77) ?_
          refine pz_ 32 (some 78) ?_
          refine tz_ 33 (some 79) hHeld ?_
          refine pz_ 34 (some 80) ?_
          refine pz_ 35 (some 81) ?_
          refine done_ (done_of HT_.out (by kernel_rfl)) ?_

          by_cases h30 : p2 = 30
          ·have h30b : (p2 == 30) = true := by simpa using h30
           have hno : Aside0 (placesP l = none) := ⟨by
            rw [← HG.out, drop_cons l k hlt, ← Hn.out]
            simp only [plGo, plStep, hf]
            rw [if_neg (by simp), if_neg (by rw [hd]; simp), if_neg (by rw [hsf.out]; simp), if_pos (by rw [← Hp2.out, h30])]
            rfl⟩
           clear hd h30
           go_wp2
           go_ret2
           exact ⟨yB.out.trans (hb4.mono yB.out.size), by rw [hno.out]; rfl⟩
          ·have h30b : (p2 == 30) = false := by simpa using h30
           have hyes : Aside0 (plGo l (k + 1) (l.drop (k + 1)) (mput D n.f0 ((k : Int), p2 + 1)) = placesP l) := ⟨by
            rw [← HG.out, drop_cons l k hlt, ← Hn.out]
            conv => rhs; simp only [plGo, plStep, hf]
            rw [if_neg (by simp), if_neg (by rw [hd]; simp), if_neg (by rw [hsf.out]; simp), if_neg (by rw [← Hp2.out]; exact h30), ← Hp2.out]
            rfl⟩
           have hinv : Aside0 (PInv (k + 1) (mput D n.f0 ((k : Int), p2 + 1))) := ⟨by
            intro x v hx
            rw [mlook_mput] at hx
            by_cases e : n.f0 = x
            ·rw [if_pos e] at hx
             obtain rfl := (Option.some.inj hx).symm
             refine ⟨?_, ?_, ?_, ?_⟩ <;> simp <;> omega
            ·rw [if_neg e] at hx
             have := HI.out x v hx
             omega⟩
           have zq0 := (hb4.cell (p := ⟨g, 0, none⟩) hg5).trans z0
           have zq1 := (hb4.cell (p := ⟨g + 1, 1, none⟩) hg6).trans zp1
           have yM2 := Aside0.mk (yM.out.below hb4)
           have yB2 := Aside0.mk (yB.out.trans (hb4.mono yB.out.size))
           clear hd h30 z0 z1 z2 z3 z4 zp0 zp1
           go_wp2_with (first | (at_mapUpdate; refine wpList_mapUpdate_at _ rfl _ _ _ 46 rfl 3 51 (KeyOK.int .i64) Try.underlying46 Try.underlying3 rfl yM2.out _ rfl ((k : Int), p2 + 1) rfl ?_; intro w5 hM5 hgr5; have HM5 := Aside0.mk hM5; have HB5 := Aside0.mk (Below.grown yB2.out hgr5 yB2.out.size (fun j hj => by cases hj; exact Nat.le_refl _)); clear hM5 hgr5))
           go_roundw
           case rel => exact ⟨k + 1, _, by go_num, by omega, HM5, hyes, hinv, HB5⟩
           case measure => simp [intOf]; omega
         ·have hst : Aside0 (tree_stands.f n.f2 kk = some false) := ⟨by rw [stands_f]; simpa using hs⟩
          have hno : Aside0 (placesP l = none) := ⟨by
           rw [← HG.out, drop_cons l k hlt, ← Hn.out]
           simp only [plGo, plStep, hf]
           rw [if_neg (by simp), if_neg (by rw [hd]; simp), if_pos ⟨by omega, .inr (by rw [← Hp1.out, ← Hkk.out]; simpa using hs)⟩]
           rfl⟩
          clear hd
          refine start_ (n := 36) (S := fun w' => w'.cell? ⟨g, 0, none⟩ = some (.int .i64 n.f0) ∧ w'.cell? ⟨g, 1, none⟩ = some (.int .i64 n.f1) ∧ w'.cell? ⟨g, 2, none⟩ = some (.int .i64 n.f2) ∧ w'.cell? ⟨g, 3, none⟩ = some (.int .i64 n.f3) ∧ w'.cell? ⟨g, 4, none⟩ = some (.string n.f4) ∧ w'.cell? ⟨g + 1, 0, none⟩ = some (.int .i64 p1) ∧ w'.cell? ⟨g + 1, 1, none⟩ = some (.int .i64 p2) ∧ (Instr.lookup 46 (.map (some w.heap.size)) (.int .i64 n.f0) false).run Try.prog w' = .ok (.agg #[.int .i64 0, .int .i64 0]) w' ∧ w'.cell? ⟨(ad.add (p1.toNat * 5)).block, (ad.add (p1.toNat * 5)).off + 2, none⟩ = some (.int .i64 kk)) (ds := []) #[false, false, false, false, false, false, false, false, false, false, false, false, false, false, false, false, false, false, false, false, false, false, false, false, false, false, false, false, false, false, false, false, false, false, false, false] (by kernel_rfl) rfl rfl ⟨(((below_drew1 (Below.refl W.heap.size W)).cell (p := ⟨g, 0, none⟩) hg5).trans z0), (((below_drew1 (Below.refl W.heap.size W)).cell (p := ⟨g, 1, none⟩) hg5).trans z1), (((below_drew1 (Below.refl W.heap.size W)).cell (p := ⟨g, 2, none⟩) hg5).trans z2), (((below_drew1 (Below.refl W.heap.size W)).cell (p := ⟨g, 3, none⟩) hg5).trans z3), (((below_drew1 (Below.refl W.heap.size W)).cell (p := ⟨g, 4, none⟩) hg5).trans z4), (((below_drew1 (Below.refl W.heap.size W)).cell (p := ⟨g + 1, 0, none⟩) hg6).trans zp0), (((below_drew1 (Below.refl W.heap.size W)).cell (p := ⟨g + 1, 1, none⟩) hg6).trans zp1), ((yM.out.below (below_drew1 (Below.refl W.heap.size W))).run_v (KeyOK.int .i64) Try.underlying46 Try.underlying3 (zero51 _) hqv.out), (((below_drew1 (Below.refl W.heap.size W)).cell (p := ⟨(ad.add (p1.toNat * 5)).block, (ad.add (p1.toNat * 5)).off + 2, none⟩) (World.block_lt_of_cell? W _ zk)).trans zk)⟩ (fun hHeld => ?_)
          refine with_tabW places_r.tab8 places_r.bits8 (fun HT_ HW_ => ?_)
          refine tz_ 0 (some 46) hHeld ?_
          refine oz_ 1 (some 47) (fun K hK => ?_)
          refine goes_ Try.func42 (by kernel_rfl) rfl #[.agg #[.int .i64 n.f0, .int .i64 n.f1, .int .i64 n.f2, .int .i64 n.f3, .string n.f4]] (by rfl) rfl rfl z26_ ?_
          with_reducible refine (tree_formed.calls n.f0 n.f1 n.f2 n.f3 n.f4 true _ hff.out).mono ?_
          rintro e w3 ⟨rfl, hbf⟩
          refine ⟨_, rfl, ?_⟩
          have hb3 : Below W.heap.size W w3 := (below_drew1 (Below.refl _ W)).trans hbf
          refine hK.out _ _ ⟨((hb3.cell (p := ⟨g, 0, none⟩) hg5).trans z0), ((hb3.cell (p := ⟨g, 1, none⟩) hg5).trans z1), ((hb3.cell (p := ⟨g, 2, none⟩) hg5).trans z2), ((hb3.cell (p := ⟨g, 3, none⟩) hg5).trans z3), ((hb3.cell (p := ⟨g, 4, none⟩) hg5).trans z4), ((hb3.cell (p := ⟨g + 1, 0, none⟩) hg6).trans zp0), ((hb3.cell (p := ⟨g + 1, 1, none⟩) hg6).trans zp1), ((yM.out.below hb3).run_v (KeyOK.int .i64) Try.underlying46 Try.underlying3 (zero51 _) hqv.out), ((hb3.cell (p := ⟨(ad.add (p1.toNat * 5)).block, (ad.add (p1.toNat * 5)).off + 2, none⟩) (World.block_lt_of_cell? W _ zk)).trans zk)⟩ (fun hHeld => ?_)
          clear hK K
          refine norm_ (a' := ?_) ?_ ?_
          rotate_left
          ·show Act.put _ (some 47) _ = _
           simp only [Act.put, List.setIfInBounds_toArray, List.set_cons_zero, List.set_cons_succ, i64_w, i32_w]
           rfl
          refine pz_ 2 (some 48) ?_
          refine pz_ 3 (some 49) ?_
          refine pz_ 4 (some 50) ?_
          refine pz_ 5 (some 51) ?_
          refine pz_ 8 (some 54) ?_
          refine tz_ 6 (some 52) hHeld ?_
          refine tz_ 7 (some 53) hHeld ?_
          refine pz_ 9 (some 55) ?_
          refine pz_ 10 (some 56) ?_
          refine pz_ 11 (some 57) ?_
          refine pz_ 12 (some 58) ?_
          refine pz_ 13 (some 59) ?_
          refine pz_ 14 (some 60) ?_
          refine pz_ 15 (some 61) ?_
          refine pz_ 16 (some 62) ?_
          refine pz_ 17 (some 63) ?_
          refine pz_ 18 (some 64) ?_
          refine pz_ 20 (some 66) ?_
          refine pz_ 21 (some 67) ?_
          refine tz_ 19 (some 65) hHeld ?_
          refine tz_ 22 (some 68) hHeld ?_
          refine pz_ 23 (some 69) ?_
          refine pz_ 24 (some 70) ?_
          refine tz_ 25 (some 71) hHeld ?_
          refine oz_ 26 (some 72) (fun K hK => ?_)
          refine goes_ Try.func44 (by kernel_rfl) rfl #[.int .i64 n.f2, .int .i64 kk] (by rfl) rfl rfl z26_ ?_
          with_reducible refine (tree_stands.calls n.f2 kk false _ hst.out).mono ?_
          rintro e w4 ⟨rfl, hds⟩
          refine ⟨_, rfl, ?_⟩
          have hb4 : Below W.heap.size W w4 := hb3.trans (hds.below.mono hb3.size)
          refine hK.out _ _ ⟨((hb4.cell (p := ⟨g, 0, none⟩) hg5).trans z0), ((hb4.cell (p := ⟨g, 1, none⟩) hg5).trans z1), ((hb4.cell (p := ⟨g, 2, none⟩) hg5).trans z2), ((hb4.cell (p := ⟨g, 3, none⟩) hg5).trans z3), ((hb4.cell (p := ⟨g, 4, none⟩) hg5).trans z4), ((hb4.cell (p := ⟨g + 1, 0, none⟩) hg6).trans zp0), ((hb4.cell (p := ⟨g + 1, 1, none⟩) hg6).trans zp1), ((yM.out.below hb4).run_v (KeyOK.int .i64) Try.underlying46 Try.underlying3 (zero51 _) hqv.out), ((hb4.cell (p := ⟨(ad.add (p1.toNat * 5)).block, (ad.add (p1.toNat * 5)).off + 2, none⟩) (World.block_lt_of_cell? W _ zk)).trans zk)⟩ (fun hHeld => ?_)
          clear hK K
          refine norm_ (a' := ?_) ?_ ?_
          rotate_left
          ·show Act.put _ (some 72) _ = _
           simp only [Act.put, List.setIfInBounds_toArray, List.set_cons_zero, List.set_cons_succ, i64_w, i32_w]
           rfl
          refine pz_ 27 (some 73) ?_
          refine pz_ 28 (some 74) ?_
          refine pz_ 29 (some 75) ?_
          refine pz_ 30 (some 76) ?_
          refine pz_ 31 (some 77) ?_
          refine pn_ 32 (some 78) ?_
          refine pn_ 33 (some 79) ?_
          refine pn_ 34 (some 80) ?_
          refine pz_ 35 (some 81) ?_
          refine done_ (done_of HT_.out (by kernel_rfl)) ?_

          go_wp2
          go_ret2
          exact ⟨yB.out.trans (hb4.mono yB.out.size), by rw [hno.out]; rfl⟩
      ·have hq2 : (q2 == 0) = false := by
        obtain ⟨v, hv⟩ := Option.ne_none_iff_exists'.1 hd
        have := (HI.out _ _ hv).2.2.1
        have e : q2 = v.2 := by rw [Hq2.out, hv]; rfl
        simp; omega
       have hno : Aside0 (placesP l = none) := ⟨by
        rw [← HG.out, drop_cons l k hlt, ← Hn.out]
        simp only [plGo, plStep, hf]
        rw [if_neg (by simp), if_pos (by
         obtain ⟨v, hv⟩ := Option.ne_none_iff_exists'.1 hd
         have := (HI.out _ _ hv).2.2.1
         rw [hv]; simp only [Option.getD_some]; intro e; rw [e] at this; omega)]
        rfl⟩
       clear hd
       refine start_ (n := 36) (S := fun w' => w'.cell? ⟨g, 0, none⟩ = some (.int .i64 n.f0) ∧ w'.cell? ⟨g, 1, none⟩ = some (.int .i64 n.f1) ∧ w'.cell? ⟨g, 2, none⟩ = some (.int .i64 n.f2) ∧ w'.cell? ⟨g, 3, none⟩ = some (.int .i64 n.f3) ∧ w'.cell? ⟨g, 4, none⟩ = some (.string n.f4) ∧ w'.cell? ⟨g + 1, 0, none⟩ = some (.int .i64 p1) ∧ w'.cell? ⟨g + 1, 1, none⟩ = some (.int .i64 p2) ∧ (Instr.lookup 46 (.map (some w.heap.size)) (.int .i64 n.f0) false).run Try.prog w' = .ok (.agg #[.int .i64 q1, .int .i64 q2]) w') (ds := []) #[false, false, false, false, false, false, false, false, false, false, false, false, false, false, false, false, false, false, false, false, false, false, false, false, false, false, false, false, false, false, false, false, false, false, false, false] (by kernel_rfl) rfl rfl ⟨(((below_drew1 (Below.refl W.heap.size W)).cell (p := ⟨g, 0, none⟩) hg5).trans z0), (((below_drew1 (Below.refl W.heap.size W)).cell (p := ⟨g, 1, none⟩) hg5).trans z1), (((below_drew1 (Below.refl W.heap.size W)).cell (p := ⟨g, 2, none⟩) hg5).trans z2), (((below_drew1 (Below.refl W.heap.size W)).cell (p := ⟨g, 3, none⟩) hg5).trans z3), (((below_drew1 (Below.refl W.heap.size W)).cell (p := ⟨g, 4, none⟩) hg5).trans z4), (((below_drew1 (Below.refl W.heap.size W)).cell (p := ⟨g + 1, 0, none⟩) hg6).trans zp0), (((below_drew1 (Below.refl W.heap.size W)).cell (p := ⟨g + 1, 1, none⟩) hg6).trans zp1), ((yM.out.below (below_drew1 (Below.refl W.heap.size W))).run_v (KeyOK.int .i64) Try.underlying46 Try.underlying3 (zero51 _) hqv.out)⟩ (fun hHeld => ?_)
       refine with_tabW places_r.tab8 places_r.bits8 (fun HT_ HW_ => ?_)
       refine tz_ 0 (some 46) hHeld ?_
       refine oz_ 1 (some 47) (fun K hK => ?_)
       refine goes_ Try.func42 (by kernel_rfl) rfl #[.agg #[.int .i64 n.f0, .int .i64 n.f1, .int .i64 n.f2, .int .i64 n.f3, .string n.f4]] (by rfl) rfl rfl z26_ ?_
       with_reducible refine (tree_formed.calls n.f0 n.f1 n.f2 n.f3 n.f4 true _ hff.out).mono ?_
       rintro e w3 ⟨rfl, hbf⟩
       refine ⟨_, rfl, ?_⟩
       have hb3 : Below W.heap.size W w3 := (below_drew1 (Below.refl _ W)).trans hbf
       refine hK.out _ _ ⟨((hb3.cell (p := ⟨g, 0, none⟩) hg5).trans z0), ((hb3.cell (p := ⟨g, 1, none⟩) hg5).trans z1), ((hb3.cell (p := ⟨g, 2, none⟩) hg5).trans z2), ((hb3.cell (p := ⟨g, 3, none⟩) hg5).trans z3), ((hb3.cell (p := ⟨g, 4, none⟩) hg5).trans z4), ((hb3.cell (p := ⟨g + 1, 0, none⟩) hg6).trans zp0), ((hb3.cell (p := ⟨g + 1, 1, none⟩) hg6).trans zp1), ((yM.out.below hb3).run_v (KeyOK.int .i64) Try.underlying46 Try.underlying3 (zero51 _) hqv.out)⟩ (fun hHeld => ?_)
       clear hK K
       refine norm_ (a' := ?_) ?_ ?_
       rotate_left
       ·show Act.put _ (some 47) _ = _
        simp only [Act.put, List.setIfInBounds_toArray, List.set_cons_zero, List.set_cons_succ, i64_w, i32_w]
        rfl
       refine pz_ 2 (some 48) ?_
       refine pz_ 3 (some 49) ?_
       refine pz_ 4 (some 50) ?_
       refine pz_ 5 (some 51) ?_
       refine pz_ 8 (some 54) ?_
       refine tz_ 6 (some 52) hHeld ?_
       refine tz_ 7 (some 53) hHeld ?_
       refine pz_ 9 (some 55) ?_
       refine pz_ 10 (some 56) ?_
       refine pz_ 11 (some 57) ?_
       refine pn_ 12 (some 58) ?_
       refine pn_ 13 (some 59) ?_
       refine pn_ 14 (some 60) ?_
       refine pn_ 15 (some 61) ?_
       refine pn_ 16 (some 62) ?_
       refine pn_ 17 (some 63) ?_
       refine pn_ 18 (some 64) ?_
       refine pn_ 19 (some 65) ?_
       refine pn_ 20 (some 66) ?_
       refine pn_ 21 (some 67) ?_
       refine pn_ 22 (some 68) ?_
       refine pn_ 23 (some 69) ?_
       refine pn_ 24 (some 70) ?_
       refine pn_ 25 (some 71) ?_
       refine pn_ 26 (some 72) ?_
       refine pn_ 27 (some 73) ?_
       refine pn_ 28 (some 74) ?_
       refine pn_ 29 (some 75) ?_
       refine pz_ 30 (some 76) ?_
       refine pz_ 31 (some 77) ?_
       refine pn_ 32 (some 78) ?_
       refine pn_ 33 (some 79) ?_
       refine pn_ 34 (some 80) ?_
       refine pz_ 35 (some 81) ?_
       refine done_ (done_of HT_.out (by kernel_rfl)) ?_

       go_wp2
       go_ret2
       exact ⟨yB.out.trans (hb3.mono yB.out.size), by rw [hno.out]; rfl⟩
     ·have hff : Aside0 (tree_formed.f n.f0 n.f1 n.f2 n.f3 n.f4 = some false) := ⟨by rw [formed_f]; simpa using hf⟩
      have hno : Aside0 (placesP l = none) := ⟨by
       rw [← HG.out, drop_cons l k hlt, ← Hn.out]
       simp only [plGo, plStep]
       rw [if_pos (by simpa using hf)]
       rfl⟩
      clear hf
      refine start_ (n := 36) (S := fun w' => w'.cell? ⟨g, 0, none⟩ = some (.int .i64 n.f0) ∧ w'.cell? ⟨g, 1, none⟩ = some (.int .i64 n.f1) ∧ w'.cell? ⟨g, 2, none⟩ = some (.int .i64 n.f2) ∧ w'.cell? ⟨g, 3, none⟩ = some (.int .i64 n.f3) ∧ w'.cell? ⟨g, 4, none⟩ = some (.string n.f4)) (ds := []) #[false, false, false, false, false, false, false, false, false, false, false, false, false, false, false, false, false, false, false, false, false, false, false, false, false, false, false, false, false, false, false, false, false, false, false, false] (by kernel_rfl) rfl rfl ⟨(((below_drew1 (Below.refl W.heap.size W)).cell (p := ⟨g, 0, none⟩) hg5).trans z0), (((below_drew1 (Below.refl W.heap.size W)).cell (p := ⟨g, 1, none⟩) hg5).trans z1), (((below_drew1 (Below.refl W.heap.size W)).cell (p := ⟨g, 2, none⟩) hg5).trans z2), (((below_drew1 (Below.refl W.heap.size W)).cell (p := ⟨g, 3, none⟩) hg5).trans z3), (((below_drew1 (Below.refl W.heap.size W)).cell (p := ⟨g, 4, none⟩) hg5).trans z4)⟩ (fun hHeld => ?_)
      refine with_tabW places_r.tab8 places_r.bits8 (fun HT_ HW_ => ?_)
      refine tz_ 0 (some 46) hHeld ?_
      refine oz_ 1 (some 47) (fun K hK => ?_)
      refine goes_ Try.func42 (by kernel_rfl) rfl #[.agg #[.int .i64 n.f0, .int .i64 n.f1, .int .i64 n.f2, .int .i64 n.f3, .string n.f4]] (by rfl) rfl rfl z26_ ?_
      with_reducible refine (tree_formed.calls n.f0 n.f1 n.f2 n.f3 n.f4 false _ hff.out).mono ?_
      rintro e w3 ⟨rfl, hbf⟩
      refine ⟨_, rfl, ?_⟩
      have hb3 : Below W.heap.size W w3 := (below_drew1 (Below.refl _ W)).trans hbf
      refine hK.out _ _ ⟨((hb3.cell (p := ⟨g, 0, none⟩) hg5).trans z0), ((hb3.cell (p := ⟨g, 1, none⟩) hg5).trans z1), ((hb3.cell (p := ⟨g, 2, none⟩) hg5).trans z2), ((hb3.cell (p := ⟨g, 3, none⟩) hg5).trans z3), ((hb3.cell (p := ⟨g, 4, none⟩) hg5).trans z4)⟩ (fun hHeld => ?_)
      clear hK K
      refine norm_ (a' := ?_) ?_ ?_
      rotate_left
      ·show Act.put _ (some 47) _ = _
       simp only [Act.put, List.setIfInBounds_toArray, List.set_cons_zero, List.set_cons_succ, i64_w, i32_w]
       rfl
      refine pz_ 2 (some 48) ?_
      refine pz_ 3 (some 49) ?_
      refine pn_ 4 (some 50) ?_
      refine pn_ 5 (some 51) ?_
      refine pn_ 6 (some 52) ?_
      refine pn_ 7 (some 53) ?_
      refine pn_ 8 (some 54) ?_
      refine pn_ 9 (some 55) ?_
      refine pz_ 10 (some 56) ?_
      refine pz_ 11 (some 57) ?_
      refine pn_ 12 (some 58) ?_
      refine pn_ 13 (some 59) ?_
      refine pn_ 14 (some 60) ?_
      refine pn_ 15 (some 61) ?_
      refine pn_ 16 (some 62) ?_
      refine pn_ 17 (some 63) ?_
      refine pn_ 18 (some 64) ?_
      refine pn_ 19 (some 65) ?_
      refine pn_ 20 (some 66) ?_
      refine pn_ 21 (some 67) ?_
      refine pn_ 22 (some 68) ?_
      refine pn_ 23 (some 69) ?_
      refine pn_ 24 (some 70) ?_
      refine pn_ 25 (some 71) ?_
      refine pn_ 26 (some 72) ?_
      refine pn_ 27 (some 73) ?_
      refine pn_ 28 (some 74) ?_
      refine pn_ 29 (some 75) ?_
      refine pz_ 30 (some 76) ?_
      refine pz_ 31 (some 77) ?_
      refine pn_ 32 (some 78) ?_
      refine pn_ 33 (some 79) ?_
      refine pn_ 34 (some 80) ?_
      refine pz_ 35 (some 81) ?_
      refine done_ (done_of HT_.out (by kernel_rfl)) ?_

      go_wp2
      go_ret2
      exact ⟨yB.out.trans (hb3.mono yB.out.size), by rw [hno.out]; rfl⟩
    ·have hkl : k = l.length := by omega
     subst hkl
     have hyes : Aside0 (placesP l = some D) := ⟨by rw [← HG.out, List.drop_length]; rfl⟩
     go_wp2
     go_ret2
     exact ⟨HB.out, by rw [hyes.out]; exact ⟨_, rfl, HM.out⟩⟩
  ·have hn : Hid (placesP l = none) := by show _ = _; unfold placesP; rw [if_pos (.inr (.inr (.inr h4)))]
   have h4c : ((rd_T24 l 0).f2 != 1) = true := by simpa using h4
   clear h3 h4
   go_enter Try.func31, Try.ntmps31
   go_wp2
   go_ret2
   exact ⟨Below.refl _ _, by rw [hn.out]; rfl⟩
 ·have hn : Hid (placesP l = none) := by show _ = _; unfold placesP; rw [if_pos (.inr (.inr (.inl h3)))]
  have h3c : ((rd_T24 l 0).f1 != 0) = true := by simpa using h3
  go_enter Try.func31, Try.ntmps31
  go_wp2
  go_ret2
  exact ⟨Below.refl _ _, by rw [hn.out]; rfl⟩
end Go.Proofs.Ytpafhhgoldenoaa.P
end
section
namespace Go.Proofs.Ytpafhhgoldenoaa.P
open Go.RowKit Go.Proofs.YtpafhhgoldenoaaW.PrintWords Go.Proofs.YtpafhhgoldenoaaW.PrintLast Go.Proofs.YtpafhhgoldenoaaW.PrintMore
open Go.Proofs.Ytpafhhgoldenoaa.XM
set_option linter.unusedVariables false
set_option linter.unusedSimpArgs false
attribute [local go_sem] encP
def idB (a : Int) : Bool := decide (1 ≤ a ∧ a ≤ 1000000)
theorem idB_f (a : Int) : tree_isID.f a = some (idB a) := isID_f a
def findP (l : List S24) (a : Int) : Int × Bool × Int :=
 match placesP l with
 | none => (0, false, 1)
 | some D => if idB a = true then (((mlook D a).getD (0, 0)).1, (mlook D a).isSome, 0) else (0, false, 1)
def tree_Find.f (l0 : List S24) (a1 : Int) : Option (Int × Bool × Int) := some (findP l0 a1)
def tree_Valid.f (l0 : List S24) : Option Bool := some (placesP l0).isSome
set_option maxHeartbeats 2000000 in
set_option maxRecDepth 100000 in
theorem tree_Valid.calls (A0 : Option Addr) (c0 : Nat) (l0 : List S24) (r : Bool) (w : World) (hr0 : Kd.C k24 w A0 l0.length l0) (hc0 : l0.length ≤ c0) (h : tree_Valid.f l0 = some r) :
  Calls Try.prog 13 #[.slice A0 l0.length c0] w fun e w' => e = .returned (.bool r) ∧ Below w.heap.size w w' := by
 have H := Lib.hid (show (placesP l0).isSome = r from Option.some.inj h)
 clear h
 go_enter Try.func13, Try.ntmps13
 go_wp2_with fail
 refine (places_calls A0 c0 l0 _ hr0 hc0).mono ?_
 rintro e w1 ⟨hb, hp⟩
 cases hD : placesP l0 with
 | none =>
  rw [hD] at hp H
  obtain rfl := hp
  obtain rfl : false = r := H.out
  clear hD H
  go_wp2
  go_ret
  exact ⟨rfl, hb⟩
 | some D =>
  rw [hD] at hp H
  obtain ⟨b, rfl, hM⟩ := hp
  obtain rfl : true = r := H.out
  clear hD H
  go_wp2
  go_ret
  exact ⟨rfl, hb⟩
set_option maxHeartbeats 2000000 in
set_option maxRecDepth 100000 in
theorem tree_Find.calls (A0 : Option Addr) (c0 : Nat) (l0 : List S24) (a1 : Int) (r1 : Int) (r2 : Bool) (r3 : Int) (w : World) (hr0 : Kd.C k24 w A0 l0.length l0) (hc0 : l0.length ≤ c0) (h : tree_Find.f l0 a1 = some (r1, r2, r3)) :
  Calls Try.prog 11 #[.slice A0 l0.length c0, .int .i64 a1] w fun e w' => e = .returned (.tuple #[.int .i64 r1, .bool r2, .int .i64 r3]) ∧ Below w.heap.size w w' := by
 have H := Lib.hid (show findP l0 a1 = (r1, r2, r3) from Option.some.inj h)
 clear h
 have hu51 := Try.underlying51
 go_enter Try.func11, Try.ntmps11
 go_wp2_with fail
 refine (places_calls A0 c0 l0 _ hr0 hc0).mono ?_
 rintro e w1 ⟨hb, hp⟩
 have HB := Aside0.mk hb
 clear hb
 cases hD : placesP l0 with
 | none =>
  rw [hD] at hp
  obtain rfl := hp
  have H2 : (((0 : Int), false, (1 : Int))) = (r1, r2, r3) := by rw [← H.out]; unfold findP; rw [hD]
  clear hD H
  obtain ⟨rfl, rfl, rfl⟩ : (0 : Int) = r1 ∧ false = r2 ∧ (1 : Int) = r3 := by simpa [Prod.ext_iff] using H2
  clear H2
  go_wp2
  go_ret3
  exact ⟨rfl, HB.out⟩
 | some D =>
  rw [hD] at hp
  obtain ⟨b, rfl, hM⟩ := hp
  have HM := Aside0.mk hM
  clear hM
  by_cases hi : idB a1 = true
  ·have H2 : (((mlook D a1).getD (0, 0)).1, (mlook D a1).isSome, (0 : Int)) = (r1, r2, r3) := by rw [← H.out]; unfold findP; rw [hD]; simp [hi]
   have hf : Aside0 (tree_isID.f a1 = some true) := ⟨by rw [idB_f, hi]⟩
   clear hD H hi
   simp only [Prod.mk.injEq] at H2
   obtain ⟨h1, h2, rfl⟩ := H2
   obtain ⟨q, hq⟩ : ∃ q : Int, q = ((mlook D a1).getD (0, 0)).2 := ⟨_, rfl⟩
   have hv : Aside0 (((mlook D a1).map encP).getD (.agg #[.int .i64 0, .int .i64 0]) = .agg #[.int .i64 r1, .int .i64 q]) := ⟨by rw [← h1, hq]; cases mlook D a1 <;> rfl⟩
   have Hb := Aside0.mk h2
   clear h1 h2 hq
   go_wp2_with (first | (go_at_call 32; refine (tree_isID.calls a1 true _ hf.out).mono ?_; rintro e w2 ⟨rfl, hd⟩; have HB2 := Aside0.mk (HB.out.trans (hd.below.mono HB.out.size)); have HM2 := Aside0.mk (HM.out.below hd.below); clear hd) | (at_lookup; refine wpList_lookup_ok _ rfl _ _ 46 rfl 3 51 (KeyOK.int .i64) Try.underlying46 Try.underlying3 (zero51 _) rfl HM2.out _ rfl _ hv.out _ Hb.out ?_))
   go_ret3
   exact ⟨rfl, below_alloc HB2.out _⟩
  ·have H2 : (((0 : Int), false, (1 : Int))) = (r1, r2, r3) := by rw [← H.out]; unfold findP; rw [hD]; simp [hi]
   have hf : Aside0 (tree_isID.f a1 = some false) := ⟨by rw [idB_f]; simpa using hi⟩
   clear hD H hi
   obtain ⟨rfl, rfl, rfl⟩ : (0 : Int) = r1 ∧ false = r2 ∧ (1 : Int) = r3 := by simpa [Prod.ext_iff] using H2
   clear H2
   go_wp2_with (first | (go_at_call 32; refine (tree_isID.calls a1 false _ hf.out).mono ?_; rintro e w2 ⟨rfl, hd⟩; have HB2 := Aside0.mk (HB.out.trans (hd.below.mono HB.out.size)); clear hd))
   go_ret3
   exact ⟨rfl, HB2.out⟩
end Go.Proofs.Ytpafhhgoldenoaa.P
end
section
namespace Go.Proofs.Ytpafhhgoldenoaa.P
open Go.RowKit Go.Proofs.YtpafhhgoldenoaaW.PrintWords Go.Proofs.YtpafhhgoldenoaaW.PrintLast Go.Proofs.YtpafhhgoldenoaaW.PrintMore
set_option linter.unusedVariables false
set_option linter.unusedSimpArgs false
def ixFind (p : S24 → Bool) (l : List S24) : Int := match l.findIdx? p with | some i => (i : Int) | none => -1
theorem ixFind_at {p : S24 → Bool} {l : List S24} {k : Nat} (hk : k < l.length) (hp : p (rd_T24 l k) = true) (hn : ∀ j, j < k → p (rd_T24 l j) = false) : ixFind p l = k := by
 have e : l.findIdx? p = some k := by
  rw [List.findIdx?_eq_some_iff_getElem]
  refine ⟨hk, by simpa [rd_T24, hk] using hp, fun j hj => ?_⟩
  have := hn j hj
  have hj2 : j < l.length := by omega
  simpa [rd_T24, hj2] using this
 unfold ixFind
 rw [e]
theorem ixFind_none {p : S24 → Bool} {l : List S24} (hn : ∀ j, j < l.length → p (rd_T24 l j) = false) : ixFind p l = -1 := by
 have e : l.findIdx? p = none := by
  rw [List.findIdx?_eq_none_iff]
  intro x hx
  obtain ⟨i, hi, rfl⟩ := List.getElem_of_mem hx
  simpa [rd_T24, hi] using hn i hi
 unfold ixFind
 rw [e]
set_option maxHeartbeats 2000000 in
set_option maxRecDepth 100000 in
theorem same58_calls (n : S24) (pb : Nat) (x : Int) (w : World) (hp : w.heap[pb]? = some (.cells #[.int .i64 x] 3 (0, 0))) (r : Bool) (hr : decide (n.f0 = x) = r) :
  Calls Try.prog 58 #[.agg #[.int .i64 n.f0, .int .i64 n.f1, .int .i64 n.f2, .int .i64 n.f3, .string n.f4], .pointer (some ⟨pb, 0, none⟩)] w fun e w' => e = .returned (.bool r) ∧ Below w.heap.size w w' := by
 subst hr
 have hu24 := Try.underlying24
 have z0 : w.cell? ⟨pb, 0, none⟩ = some (.int .i64 x) := blk_cell hp 0
 have hne : pb ≠ w.heap.size := by have := blk_lt hp; omega
 have hlt := blk_lt hp
 clear hp
 by_cases h : n.f0 = x
 ·have hb : (n.f0 == x) = true := by simpa using h
  have hd : Hid (decide (n.f0 = x) = true) := decide_eq_true h
  clear h
  go_enter Try.func58, Try.ntmps58
  go_wp2
  go_ret
  exact ⟨by rw [hd.out]; rfl, below_alloc (Below.refl _ _) _⟩
 ·have hb : (n.f0 == x) = false := by simpa using h
  have hd : Hid (decide (n.f0 = x) = false) := decide_eq_false h
  clear h
  go_enter Try.func58, Try.ntmps58
  go_wp2
  go_ret
  exact ⟨by rw [hd.out]; rfl, below_alloc (Below.refl _ _) _⟩
set_option maxHeartbeats 4000000 in
set_option maxRecDepth 100000 in
theorem indexFunc58_calls (A0 : Option Addr) (c0 : Nat) (l0 : List S24) (pb : Nat) (x : Int) (w : World) (hr0 : Kd.C k24 w A0 l0.length l0) (hc0 : l0.length ≤ c0) (hp : w.heap[pb]? = some (.cells #[.int .i64 x] 3 (0, 0))) :
  Calls Try.prog 57 #[.slice A0 l0.length c0, .func (.func 58) #[] #[.pointer (some ⟨pb, 0, none⟩)]] w fun e w' => e = .returned (.int .i64 (ixFind (fun n => decide (n.f0 = x)) l0)) ∧ Below w.heap.size w w' := by
 have hu24 := Try.underlying24
 have HR := Aside0.mk hr0
 have HP := Aside0.mk hp
 have HB := Aside0.mk (Below.refl w.heap.size w)
 have hmax := Kd.C_max hr0
 clear hr0 hp
 go_enter Try.func57, Try.ntmps57
 go_wp2
 go_loopw [5, 8] (fun _ v8 wr => ∃ k : Nat, v8 = .int .i64 k ∧ k ≤ l0.length ∧ Aside0 (∀ j, j < k → decide ((rd_T24 l0 j).f0 = x) = false) ∧ Aside0 (Below w.heap.size w wr)) (fun _ i _ => l0.length - (intOf i).toNat)
 case atStart => exact ⟨0, rfl, by omega, ⟨fun j hj => by omega⟩, HB⟩
 case round =>
  clear HB
  obtain ⟨k, rfl, hk, HN, HB⟩ := hrel
  by_cases hlt : k < l0.length
  ·obtain ⟨ad, e, x0, x1, x2, x3, x4⟩ := at_T24 (Kd.C_below HR.out HB.out) k (by omega) (by omega)
   cases e
   simp only [Int.toNat_natCast] at x0 x1 x2 x3 x4
   obtain ⟨n, hn⟩ : ∃ n, n = rd_T24 l0 k := ⟨_, rfl⟩
   rw [← hn] at x0 x1 x2 x3 x4
   have Hn := Aside0.mk hn
   clear hn
   have i1 : (0 : Int) ≤ k := by omega
   have i2 : (k : Int) < l0.length := by omega
   have hpW : Aside0 (wr.heap[pb]? = some (.cells #[.int .i64 x] 3 (0, 0))) := ⟨(HB.out.block pb (blk_lt HP.out)).trans HP.out⟩
   by_cases he : n.f0 = x
   ·have hres : Aside0 (ixFind (fun n => decide (n.f0 = x)) l0 = k) := ⟨ixFind_at hlt (by rw [← Hn.out]; simpa using he) HN.out⟩
    have hde : Aside0 (decide (n.f0 = x) = true) := ⟨decide_eq_true he⟩
    clear he
    go_wp2_with (first | (go_at_call 58; (with_reducible refine (same58_calls n pb x _ hpW.out true hde.out).mono ?_); rintro e w3 ⟨rfl, hb3⟩; have HB3 := Aside0.mk (HB.out.trans (hb3.mono HB.out.size)); clear hb3))
    go_ret
    exact ⟨by rw [hres.out]; rfl, HB3.out⟩
   ·have hde : Aside0 (decide (n.f0 = x) = false) := ⟨decide_eq_false he⟩
    have HN2 : Aside0 (∀ j, j < k + 1 → decide ((rd_T24 l0 j).f0 = x) = false) := ⟨fun j hj => by
     by_cases e : j = k
     ·subst e; rw [← Hn.out]; exact hde.out
     ·exact HN.out j (by omega)⟩
    clear he
    go_wp2_with (first | (go_at_call 58; (with_reducible refine (same58_calls n pb x _ hpW.out false hde.out).mono ?_); rintro e w3 ⟨rfl, hb3⟩; have HB3 := Aside0.mk (HB.out.trans (hb3.mono HB.out.size)); clear hb3))
    go_roundw
    case rel => exact ⟨k + 1, by go_num, by omega, HN2, HB3⟩
    case measure => simp [intOf]; omega
  ·have hres : Aside0 (ixFind (fun n => decide (n.f0 = x)) l0 = -1) := ⟨ixFind_none (fun j hj => HN.out j (by omega))⟩
   go_wp2
   go_ret
   exact ⟨by rw [hres.out]; rfl, HB.out⟩
set_option maxHeartbeats 2000000 in
set_option maxRecDepth 100000 in
theorem same51_calls (n : S24) (pb : Nat) (x : Int) (w : World) (hp : w.heap[pb]? = some (.cells #[.int .i64 x] 3 (0, 0))) (r : Bool) (hr : decide (n.f0 = x) = r) :
  Calls Try.prog 51 #[.agg #[.int .i64 n.f0, .int .i64 n.f1, .int .i64 n.f2, .int .i64 n.f3, .string n.f4], .pointer (some ⟨pb, 0, none⟩)] w fun e w' => e = .returned (.bool r) ∧ Below w.heap.size w w' := by
 subst hr
 have hu24 := Try.underlying24
 have z0 : w.cell? ⟨pb, 0, none⟩ = some (.int .i64 x) := blk_cell hp 0
 have hne : pb ≠ w.heap.size := by have := blk_lt hp; omega
 have hlt := blk_lt hp
 clear hp
 by_cases h : n.f0 = x
 ·have hb : (n.f0 == x) = true := by simpa using h
  have hd : Hid (decide (n.f0 = x) = true) := decide_eq_true h
  clear h
  go_enter Try.func51, Try.ntmps51
  go_wp2
  go_ret
  exact ⟨by rw [hd.out]; rfl, below_alloc (Below.refl _ _) _⟩
 ·have hb : (n.f0 == x) = false := by simpa using h
  have hd : Hid (decide (n.f0 = x) = false) := decide_eq_false h
  clear h
  go_enter Try.func51, Try.ntmps51
  go_wp2
  go_ret
  exact ⟨by rw [hd.out]; rfl, below_alloc (Below.refl _ _) _⟩
set_option maxHeartbeats 4000000 in
set_option maxRecDepth 100000 in
theorem indexFunc51_calls (A0 : Option Addr) (c0 : Nat) (l0 : List S24) (pb : Nat) (x : Int) (w : World) (hr0 : Kd.C k24 w A0 l0.length l0) (hc0 : l0.length ≤ c0) (hp : w.heap[pb]? = some (.cells #[.int .i64 x] 3 (0, 0))) :
  Calls Try.prog 57 #[.slice A0 l0.length c0, .func (.func 51) #[] #[.pointer (some ⟨pb, 0, none⟩)]] w fun e w' => e = .returned (.int .i64 (ixFind (fun n => decide (n.f0 = x)) l0)) ∧ Below w.heap.size w w' := by
 have hu24 := Try.underlying24
 have HR := Aside0.mk hr0
 have HP := Aside0.mk hp
 have HB := Aside0.mk (Below.refl w.heap.size w)
 have hmax := Kd.C_max hr0
 clear hr0 hp
 go_enter Try.func57, Try.ntmps57
 go_wp2
 go_loopw [5, 8] (fun _ v8 wr => ∃ k : Nat, v8 = .int .i64 k ∧ k ≤ l0.length ∧ Aside0 (∀ j, j < k → decide ((rd_T24 l0 j).f0 = x) = false) ∧ Aside0 (Below w.heap.size w wr)) (fun _ i _ => l0.length - (intOf i).toNat)
 case atStart => exact ⟨0, rfl, by omega, ⟨fun j hj => by omega⟩, HB⟩
 case round =>
  clear HB
  obtain ⟨k, rfl, hk, HN, HB⟩ := hrel
  by_cases hlt : k < l0.length
  ·obtain ⟨ad, e, x0, x1, x2, x3, x4⟩ := at_T24 (Kd.C_below HR.out HB.out) k (by omega) (by omega)
   cases e
   simp only [Int.toNat_natCast] at x0 x1 x2 x3 x4
   obtain ⟨n, hn⟩ : ∃ n, n = rd_T24 l0 k := ⟨_, rfl⟩
   rw [← hn] at x0 x1 x2 x3 x4
   have Hn := Aside0.mk hn
   clear hn
   have i1 : (0 : Int) ≤ k := by omega
   have i2 : (k : Int) < l0.length := by omega
   have hpW : Aside0 (wr.heap[pb]? = some (.cells #[.int .i64 x] 3 (0, 0))) := ⟨(HB.out.block pb (blk_lt HP.out)).trans HP.out⟩
   by_cases he : n.f0 = x
   ·have hres : Aside0 (ixFind (fun n => decide (n.f0 = x)) l0 = k) := ⟨ixFind_at hlt (by rw [← Hn.out]; simpa using he) HN.out⟩
    have hde : Aside0 (decide (n.f0 = x) = true) := ⟨decide_eq_true he⟩
    clear he
    go_wp2_with (first | (go_at_call 51; (with_reducible refine (same51_calls n pb x _ hpW.out true hde.out).mono ?_); rintro e w3 ⟨rfl, hb3⟩; have HB3 := Aside0.mk (HB.out.trans (hb3.mono HB.out.size)); clear hb3))
    go_ret
    exact ⟨by rw [hres.out]; rfl, HB3.out⟩
   ·have hde : Aside0 (decide (n.f0 = x) = false) := ⟨decide_eq_false he⟩
    have HN2 : Aside0 (∀ j, j < k + 1 → decide ((rd_T24 l0 j).f0 = x) = false) := ⟨fun j hj => by
     by_cases e : j = k
     ·subst e; rw [← Hn.out]; exact hde.out
     ·exact HN.out j (by omega)⟩
    clear he
    go_wp2_with (first | (go_at_call 51; (with_reducible refine (same51_calls n pb x _ hpW.out false hde.out).mono ?_); rintro e w3 ⟨rfl, hb3⟩; have HB3 := Aside0.mk (HB.out.trans (hb3.mono HB.out.size)); clear hb3))
    go_roundw
    case rel => exact ⟨k + 1, by go_num, by omega, HN2, HB3⟩
    case measure => simp [intOf]; omega
  ·have hres : Aside0 (ixFind (fun n => decide (n.f0 = x)) l0 = -1) := ⟨ixFind_none (fun j hj => HN.out j (by omega))⟩
   go_wp2
   go_ret
   exact ⟨by rw [hres.out]; rfl, HB.out⟩
set_option maxHeartbeats 2000000 in
set_option maxRecDepth 100000 in
theorem containsFunc_calls (A0 : Option Addr) (c0 : Nat) (l0 : List S24) (pb : Nat) (x : Int) (w : World) (hr0 : Kd.C k24 w A0 l0.length l0) (hc0 : l0.length ≤ c0) (hp : w.heap[pb]? = some (.cells #[.int .i64 x] 3 (0, 0))) (r : Bool) (hr : decide (0 ≤ ixFind (fun n => decide (n.f0 = x)) l0) = r) :
  Calls Try.prog 50 #[.slice A0 l0.length c0, .func (.func 51) #[] #[.pointer (some ⟨pb, 0, none⟩)]] w fun e w' => e = .returned (.bool r) ∧ Below w.heap.size w w' := by
 have Hr := Aside0.mk hr
 clear hr
 go_enter Try.func50, Try.ntmps50
 go_wp2_with (first | (go_at_call 57; (with_reducible refine (indexFunc51_calls A0 c0 l0 pb x _ hr0 hc0 hp).mono ?_); rintro e w3 ⟨rfl, hb3⟩))
 go_ret
 exact ⟨by rw [← Hr.out]; rfl, hb3⟩
set_option maxHeartbeats 2000000 in
set_option maxRecDepth 100000 in
theorem grow_calls (n : Nat) (hn : n ≤ 1000000) (w : World) :
  Calls Try.prog 63 #[.slice none 0 0, .int .i64 n] w fun e w' => ∃ v, e = .returned v ∧ Kd.R k24 24 w' w.heap.size (fun _ => True) v [] ∧ Below w.heap.size w w' := by
 by_cases h0 : n = 0
 ·subst h0
  go_enter Try.func63, Try.ntmps63
  go_wp2
  go_ret
  exact ⟨_, rfl, Kd.R_nil _ _ _ _ _, Below.refl _ _⟩
 ·have h1 : (0 : Int) < n := by omega
  have h2 : ¬ ((n : Int) < 0) := by omega
  have h3 : 0 < n := by omega
  go_enter Try.func63, Try.ntmps63
  go_wp2_with (first | ((with_reducible refine gate_builtin (b := .append) (xs := #[.tmp 20, .tmp 21]) rfl ?_); at_builtin; refine Kd.R_append_zeros k24 (w0 := w) w.heap.size rfl (.tmp 20) (.tmp 21) 22 3 24 (.agg #[(.int .i64 0), (.int .i64 0), (.int .i64 0), (.int .i64 0), (.string ⟨#[]⟩)]) 48 rfl Try.underlying22 Try.underlying3 info24 rfl (by decide) (by omega) (.slice none 0 0) [] z24 n (fun _ => True) rfl rfl (k24_mkM _ _ _ z24) (fun _ _ => trivial) (Kd.R_nil _ _ _ _ _) (by omega) (Below.refl _ _) (Nat.le_refl _) (by simp; omega) ?_; intro v9 w9 ho9 hb9 _ _; obtain ⟨A9, c9, e9⟩ := Kd.R_slice ho9; subst e9; have HO9 := Aside0.mk (show Kd.R k24 24 w9 w.heap.size (fun _ => True) (.slice A9 0 c9) [] from Kd.R_take ho9 (Nat.zero_le _)); have HB9 := Aside0.mk hb9; obtain ⟨i25, hi25, _, _, _⟩ := info_parts info24; have hcut := cut_to (P := Try.prog) 22 24 .i64 Try.underlying22 hi25 A9 ([] ++ List.replicate (n : Int).toNat z24).length c9 0 (by omega) (by omega) (Kd.R_reads' ho9).2.1; clear ho9 hb9))
  go_ret
  exact ⟨_, rfl, HO9.out, HB9.out⟩
end Go.Proofs.Ytpafhhgoldenoaa.P
end
section
namespace Go.Proofs.Ytpafhhgoldenoaa.P
open Go.RowKit Go.Proofs.YtpafhhgoldenoaaW.PrintWords Go.Proofs.YtpafhhgoldenoaaW.PrintLast Go.Proofs.YtpafhhgoldenoaaW.PrintMore
set_option linter.unusedVariables false
set_option linter.unusedSimpArgs false
theorem take_flat (ls : List (List S24)) (k : Nat) (h : k < ls.length) : (ls.take (k + 1)).flatten = (ls.take k).flatten ++ rd_L3 ls k := by
 rw [List.take_succ_eq_append_getElem h, List.flatten_append]
 simp [rd_L3, h]
theorem flat_le (ls : List (List S24)) (k : Nat) : (ls.take k).flatten.length ≤ ls.flatten.length := by
 have h : ls.flatten.length = (ls.take k).flatten.length + (ls.drop k).flatten.length := by
  rw [← List.length_append, ← List.flatten_append, List.take_append_drop]
 omega
set_option maxHeartbeats 4000000 in
set_option maxRecDepth 100000 in
theorem concat_calls (A0 : Option Addr) (c0 : Nat) (ls : List (List S24)) (w : World) (hr0 : Kd.C (Kd.slice 24 k24) w A0 ls.length ls) (hc0 : ls.length ≤ c0) (hl : ls.flatten.length ≤ 1000000) :
  Calls Try.prog 59 #[.slice A0 ls.length c0] w fun e w' => ∃ v, e = .returned v ∧ Kd.R k24 24 w' w.heap.size (fun _ => True) v ls.flatten ∧ Below w.heap.size w w' := by
 have HR := Aside0.mk hr0
 have HB := Aside0.mk (Below.refl w.heap.size w)
 have hmax := Kd.C_max hr0
 clear hr0
 go_enter Try.func59, Try.ntmps59
 go_wp2
 go_loopw [3, 5, 11] (fun v3 _ v11 wr => ∃ k S : Nat, v11 = .int .i64 k ∧ v3 = .int .i64 S ∧ k ≤ ls.length ∧ S ≤ 1000000 ∧ Aside0 (S = (ls.take k).flatten.length) ∧ Aside0 (Below w.heap.size w wr)) (fun _ _ i _ => ls.length - (intOf i).toNat)
 case atStart => exact ⟨0, 0, rfl, rfl, by omega, by omega, ⟨by simp⟩, HB⟩
 case round =>
  clear HB
  obtain ⟨k, S, rfl, rfl, hk, hS, HS, HB⟩ := hrel
  by_cases hlt : k < ls.length
  ·obtain ⟨ad, A1, c1, e, x0, hc1, hC1⟩ := at_L3 (Kd.C_below HR.out HB.out) k (by omega) (by omega)
   cases e
   simp only [Int.toNat_natCast] at x0
   have HC1 := Aside0.mk hC1
   clear hC1
   obtain ⟨y, hy⟩ : ∃ y, y = rd_L3 ls k := ⟨_, rfl⟩
   rw [← hy] at x0 hc1 HC1
   have HS2 : Aside0 (S + y.length = (ls.take (k + 1)).flatten.length) := ⟨by rw [take_flat ls k hlt, List.length_append, ← hy, HS.out]⟩
   have hS2 : S + y.length ≤ 1000000 := by rw [HS2.out]; exact Nat.le_trans (flat_le ls (k + 1)) hl
   clear hy
   have i1 : (0 : Int) ≤ k := by omega
   have i2 : (k : Int) < ls.length := by omega
   have n0 : ¬ ((S : Int) + (y.length : Int) < 0) := by omega
   have n1 : decide ((S : Int) + (y.length : Int) < 0) = false := decide_eq_false n0
   have hw := IntWalk.i64_in ((S : Int) + (y.length : Int)) (by omega)
   go_wp2
   go_roundw
   case rel => exact ⟨k + 1, S + y.length, by go_num, by go_num, by omega, hS2, HS2, HB⟩
   case measure => simp [intOf]; omega
  ·obtain rfl : k = ls.length := by omega
   have hS2 : Aside0 (S = ls.flatten.length) := ⟨by have := HS.out; rwa [List.take_length] at this⟩
   go_wp2_with (first | (go_at_call 63; (with_reducible refine (grow_calls S hS _).mono ?_); rintro e w3 ⟨v3, rfl, hR3, hb3⟩; have HR3 := Aside0.mk (Kd.R_lower hR3 HB.out.size); have HB3 := Aside0.mk (HB.out.trans (hb3.mono HB.out.size)); clear hR3 hb3))
   clear HB HS
   go_loopw [6, 8, 27] (fun v6 _ v27 wr => ∃ k : Nat, v27 = .int .i64 k ∧ k ≤ ls.length ∧ Aside0 (Kd.R k24 24 wr w.heap.size (fun _ => True) v6 (ls.take k).flatten) ∧ Aside0 (Below w.heap.size w wr)) (fun _ _ i _ => ls.length - (intOf i).toNat)
   case atStart => exact ⟨0, rfl, by omega, HR3, HB3⟩
   case round =>
    clear HR3 HB3
    obtain ⟨k, rfl, hk, HO, HB⟩ := hrel
    by_cases hlt : k < ls.length
    ·obtain ⟨ad, A1, c1, e, x0, hc1, hC1⟩ := at_L3 (Kd.C_below HR.out HB.out) k (by omega) (by omega)
     cases e
     simp only [Int.toNat_natCast] at x0
     have HC1 := Aside0.mk hC1
     clear hC1
     obtain ⟨y, hy⟩ : ∃ y, y = rd_L3 ls k := ⟨_, rfl⟩
     rw [← hy] at x0 hc1 HC1
     have HT : Aside0 ((ls.take (k + 1)).flatten = (ls.take k).flatten ++ y) := ⟨by rw [take_flat ls k hlt, ← hy]⟩
     have HL : Aside0 (((ls.take k).flatten.length + y.length) * 48 ≤ 140737488355328) := ⟨by
      have := flat_le ls (k + 1)
      rw [HT.out, List.length_append] at this
      omega⟩
     clear hy
     have i1 : (0 : Int) ≤ k := by omega
     have i2 : (k : Int) < ls.length := by omega
     go_wp2_with (first | ((with_reducible refine gate_builtin (b := .append) (xs := #[.tmp 31, .tmp 32]) rfl ?_); at_builtin; refine Kd.R_append_rows k24 (w0 := w) w.heap.size rfl (.tmp 31) (.tmp 32) 22 24 (.agg #[(.int .i64 0), (.int .i64 0), (.int .i64 0), (.int .i64 0), (.string ⟨#[]⟩)]) 48 rfl Try.underlying22 info24 rfl (by decide) (by omega) _ (ls.take k).flatten y _ _ _ (fun _ => True) (fun _ => False) rfl rfl HO.out HC1.out (fun _ _ h => h) (fun _ h => h.elim) (fun _ _ => trivial) HB.out HB.out.size HL.out ?_; intro v9 w9 ho9 hb9 _ _; have HO9 := Aside0.mk ho9; have HB9 := Aside0.mk hb9; clear ho9 hb9))
     go_roundw
     case rel => exact ⟨k + 1, by go_num, by omega, ⟨by rw [HT.out]; exact HO9.out⟩, HB9⟩
     case measure => simp [intOf]; omega
    ·obtain rfl : k = ls.length := by omega
     have hend : Aside0 ((ls.take ls.length).flatten = ls.flatten) := ⟨by rw [List.take_length]⟩
     go_wp2
     go_ret
     exact ⟨_, rfl, by rw [← hend.out]; exact HO.out, HB.out⟩
end Go.Proofs.Ytpafhhgoldenoaa.P
end
section
namespace Go.Proofs.Ytpafhhgoldenoaa.P
open Go.RowKit Go.Proofs.YtpafhhgoldenoaaW.PrintWords Go.Proofs.YtpafhhgoldenoaaW.PrintLast Go.Proofs.YtpafhhgoldenoaaW.PrintMore
set_option linter.unusedVariables false
set_option linter.unusedSimpArgs false
theorem C_three (W : World) (A1 A2 A3 : Option Addr) (c1 c2 c3 : Nat) (x1 x2 x3 : List S24) (h1 : Kd.C k24 W A1 x1.length x1) (l1 : x1.length ≤ c1) (h2 : Kd.C k24 W A2 x2.length x2) (l2 : x2.length ≤ c2) (h3 : Kd.C k24 W A3 x3.length x3) (l3 : x3.length ≤ c3) :
  Kd.C (Kd.slice 24 k24) (W.alloc (.cells #[.slice A1 x1.length c1, .slice A2 x2.length c2, .slice A3 x3.length c3] 22)) (some ⟨W.heap.size, 0, none⟩) [x1, x2, x3].length [x1, x2, x3] := by
 have hb := heap_alloc_new W (.cells #[.slice A1 x1.length c1, .slice A2 x2.length c2, .slice A3 x3.length c3] 22)
 refine ⟨rfl, by simp, fun _ => ⟨_, rfl, fun j p hj => ?_⟩⟩
 match j, hj with
 | 0, hj =>
  obtain rfl : x1 = p := by simpa using hj
  exact ⟨[_], rfl, ⟨A1, c1, rfl, l1, Kd.C_alloc h1 _⟩, fun i u hu => by
   cases i with
   | zero => obtain rfl := Option.some.inj hu; exact (congrArg _ (add_plain _ _)).trans (blk_cell hb 0)
   | succ i => simp at hu⟩
 | 1, hj =>
  obtain rfl : x2 = p := by simpa using hj
  exact ⟨[_], rfl, ⟨A2, c2, rfl, l2, Kd.C_alloc h2 _⟩, fun i u hu => by
   cases i with
   | zero => obtain rfl := Option.some.inj hu; exact (congrArg _ (add_plain _ _)).trans (blk_cell hb 1)
   | succ i => simp at hu⟩
 | 2, hj =>
  obtain rfl : x3 = p := by simpa using hj
  exact ⟨[_], rfl, ⟨A3, c3, rfl, l3, Kd.C_alloc h3 _⟩, fun i u hu => by
   cases i with
   | zero => obtain rfl := Option.some.inj hu; exact (congrArg _ (add_plain _ _)).trans (blk_cell hb 2)
   | succ i => simp at hu⟩
 | j + 3, hj => simp at hj
def putP (l more : List S24) (b : Int) : Option (List S24) :=
 if b = 0 then some (l ++ more) else match l.findIdx? (fun n => decide (n.f0 = b)) with | some i => some (l.take i ++ more ++ l.drop i) | none => none
def put_r.T4 : Bool × List (List Nat × List Nat) := (true, [([], []), ([], []), ([0, 1], [0, 1]), ([], []), ([], []), ([], []), ([4, 5], [4, 5]), ([2, 3, 6], [2, 3, 6]), ([7], [7]), ([8, 8, 0, 1, 2, 3, 4, 5, 6, 7, 8], [8])])
def put_r.B4 : List Nat := [0, 0, 3, 0, 0, 0, 48, 127, 255, 511]
theorem put_r.tab4 : rtab .any (opsOf Try.f45 4) = put_r.T4 := by kernel_rfl
theorem put_r.bits4 : waitsOk put_r.T4.2 put_r.B4 = true := by kernel_rfl
set_option maxHeartbeats 4000000 in
set_option maxRecDepth 100000 in
theorem put_calls (A0 : Option Addr) (c0 : Nat) (l0 : List S24) (A1 : Option Addr) (c1 : Nat) (l1 : List S24) (b : Int) (r : List S24) (w : World) (hr0 : Kd.C k24 w A0 l0.length l0) (hc0 : l0.length ≤ c0) (hr1 : Kd.C k24 w A1 l1.length l1) (hc1 : l1.length ≤ c1) (hl : l0.length + l1.length ≤ 1000000) (h : putP l0 l1 b = some r) :
  Calls Try.prog 45 #[.slice A0 l0.length c0, .slice A1 l1.length c1, .int .i64 b] w fun e w' => ∃ v, e = .returned v ∧ Kd.R k24 24 w' w.heap.size (fun _ => True) v r ∧ Below w.heap.size w w' := by
 have hu22 := Try.underlying22
 have HR := Aside0.mk hr0
 have HR1 := Aside0.mk hr1
 have HB := Aside0.mk (Below.refl w.heap.size w)
 have HP := Aside0.mk (heap_alloc_new w (.cells #[.int .i64 b] 3))
 obtain ⟨i0, hi0, _, hsz0, _⟩ := info_parts info24
 clear hr0 hr1
 obtain ⟨i, hile, hir, hx⟩ : ∃ i : Nat, i ≤ l0.length ∧ r = l0.take i ++ l1 ++ l0.drop i ∧ (if b = 0 then i = l0.length else ixFind (fun n => decide (n.f0 = b)) l0 = i) := by
  unfold putP at h
  by_cases hb : b = 0
  ·rw [if_pos hb] at h
   exact ⟨l0.length, Nat.le_refl _, by rw [List.take_length, List.drop_length]; simpa using (Option.some.inj h).symm, by rw [if_pos hb]⟩
  ·rw [if_neg hb] at h
   cases hf : l0.findIdx? (fun n => decide (n.f0 = b)) with
   | none => rw [hf] at h; cases h
   | some i =>
    rw [hf] at h
    obtain ⟨hlt, _⟩ := List.findIdx?_eq_some_iff_getElem.1 hf
    exact ⟨i, Nat.le_of_lt hlt, (Option.some.inj h).symm, by rw [if_neg hb]; unfold ixFind; rw [hf]⟩
 have HX := Aside0.mk hx
 have HI := Aside0.mk hir
 clear h hx hir
 have hto := cut_to (P := Try.prog) 22 24 .i64 Try.underlying22 hi0 A0 l0.length c0 i (by omega) (by omega) hc0
 have hfr := cut_from (P := Try.prog) 22 24 .i64 Try.underlying22 hi0 5 hsz0 A0 l0.length c0 i (by omega) (by omega)
 simp only [Int.toNat_natCast] at hto hfr
 clear hi0 hsz0
 obtain ⟨A3, hA3⟩ : ∃ A3, A3 = (if c0 = i then A0 else A0.map (·.add (i * 5))) := ⟨_, rfl⟩
 rw [← hA3] at hfr
 have HA3 := Aside0.mk hA3
 clear hA3
 have i1 : (0 : Int) ≤ i := by omega
 have i2 : (i : Int) ≤ l0.length := by omega
 have i3 : (i : Int) ≤ c0 := by omega
 have HI1 := Aside0.mk i2
 have HC0 := Aside0.mk hc0
 have HC1 := Aside0.mk hc1
 have HL := Aside0.mk hl
 have HILE := Aside0.mk hile
 by_cases hb : b = 0
 ·have hb1 : (b == 0) = true := by simpa using hb
  obtain rfl : i = l0.length := by have := HX.out; rwa [if_pos hb] at this
  clear hb
  go_enter Try.func45, Try.ntmps45
  go_wp2_with (first | (go_at_call 57; (with_reducible refine (indexFunc58_calls A0 c0 l0 w.heap.size b _ (Kd.C_alloc HR.out _) HC0.out HP.out).mono ?_); rintro e w3 ⟨rfl, hb3⟩; have HB3 := Aside0.mk ((below_alloc HB.out _).trans (hb3.mono (by simp))); have y0 : w3.cell? ⟨w.heap.size, 0, none⟩ = some (.int .i64 b) := blk_cell ((hb3.block w.heap.size (by simp)).trans HP.out) 0; clear hb3))
  refine start_ (n := 10) (S := fun w' => True) (ds := []) #[false, false, false, false, false, false, false, false, false, false] (by kernel_rfl) rfl rfl trivial (fun hHeld => ?_)
  refine with_tabW put_r.tab4 put_r.bits4 (fun HT_ HW_ => ?_)
  refine pz_ 0 (some 15) ?_
  refine pz_ 1 (some 16) ?_
  refine pz_ 2 (some 17) ?_
  refine pz_ 3 (some 18) ?_
  refine pz_ 4 (some 19) ?_
  refine pz_ 5 (some 20) ?_
  refine pz_ 6 (some 21) ?_
  refine oz_ 7 (some 22) (fun K hK => ?_)
  refine value_ (w1 := ?_) (v := ?_) (by rfl) rfl ?_ ?_
  rotate_left 2
  ·go_simp
   constructor
   ·rfl
   ·rfl
  refine hK.out _ _ trivial (fun hHeld => ?_)
  clear hK K
  refine norm_ (a' := ?_) ?_ ?_
  rotate_left
  ·show Act.put _ (some 22) _ = _
   simp only [Act.put, List.setIfInBounds_toArray, List.set_cons_zero, List.set_cons_succ, i64_w, i32_w]
   rfl
  refine oz_ 8 (some 23) (fun K hK => ?_)
  have h3_ := (C_three w3.drew A0 A1 A3 c0 c1 (c0 - l0.length) l0 l1 [] (Kd.C_drew (Kd.C_below HR.out HB3.out)) HC0.out (Kd.C_drew (Kd.C_below HR1.out HB3.out)) HC1.out ⟨rfl, by simp, fun h => absurd h (by simp)⟩ (by simp))
  (try simp only [List.length_take, List.length_drop, Nat.min_eq_left HILE.out] at h3_)
  have H3 := Aside0.mk h3_
  clear h3_
  refine goes_ Try.func59 (by kernel_rfl) rfl #[.slice (some ⟨w3.heap.size, 0, none⟩) 3 3] (by rfl) rfl rfl z26_ ?_
  refine (concat_calls _ 3 [l0, l1, []] _ H3.out (by simp) (by have := HL.out; have := HILE.out; simp <;> omega)).mono ?_
  rintro e w5 ⟨v5, rfl, hr5, hb5⟩
  have HB5 := Aside0.mk ((below_alloc (below_drew1 HB3.out) (.cells #[.slice A0 l0.length c0, .slice A1 l1.length c1, .slice A3 0 (c0 - l0.length)] 22)).trans (hb5.mono (by have := HB3.out.size; simp <;> omega)))
  have HR5 := Aside0.mk (show Kd.R k24 24 w5 w.heap.size (fun _ => True) v5 (l0.take l0.length ++ l1 ++ l0.drop l0.length) from by have h_ := Kd.R_lower hr5 (base' := w.heap.size) (by have := HB3.out.size; simp <;> omega); simpa using h_)
  clear hr5 hb5
  refine ⟨_, rfl, ?_⟩
  refine hK.out _ _ trivial (fun hHeld => ?_)
  clear hK K
  refine norm_ (a' := ?_) ?_ ?_
  rotate_left
  ·show Act.put _ (some 23) _ = _
   simp only [Act.put, List.setIfInBounds_toArray, List.set_cons_zero, List.set_cons_succ, i64_w, i32_w]
   rfl
  refine pz_ 9 (some 6) ?_
  refine done_ (done_of HT_.out (by kernel_rfl)) ?_

  go_wp2
  go_ret
  exact ⟨_, rfl, by rw [HI.out]; exact HR5.out, HB5.out⟩
 ·have hb1 : (b == 0) = false := by simpa using hb
  have hix : Aside0 (ixFind (fun n => decide (n.f0 = b)) l0 = i) := ⟨by have := HX.out; rwa [if_neg hb] at this⟩
  clear hb
  go_enter Try.func45, Try.ntmps45
  go_wp2_with (first | (go_at_call 57; (with_reducible refine (indexFunc58_calls A0 c0 l0 w.heap.size b _ (Kd.C_alloc HR.out _) HC0.out HP.out).mono ?_); rintro e w3 ⟨rfl, hb3⟩; simp only [hix.out]; have HB3 := Aside0.mk ((below_alloc HB.out _).trans (hb3.mono (by simp))); have y0 : w3.cell? ⟨w.heap.size, 0, none⟩ = some (.int .i64 b) := blk_cell ((hb3.block w.heap.size (by simp)).trans HP.out) 0; clear hb3))
  refine start_ (n := 10) (S := fun w' => True) (ds := []) #[false, false, false, false, false, false, false, false, false, false] (by kernel_rfl) rfl rfl trivial (fun hHeld => ?_)
  refine with_tabW put_r.tab4 put_r.bits4 (fun HT_ HW_ => ?_)
  refine pz_ 0 (some 15) ?_
  refine pz_ 1 (some 16) ?_
  refine pz_ 2 (some 17) ?_
  refine pz_ 3 (some 18) ?_
  refine pz_ 4 (some 19) ?_
  refine pz_ 5 (some 20) ?_
  refine pz_ 6 (some 21) ?_
  refine oz_ 7 (some 22) (fun K hK => ?_)
  refine value_ (w1 := ?_) (v := ?_) (by rfl) rfl ?_ ?_
  rotate_left 2
  ·go_simp
   constructor
   ·rfl
   ·rfl
  refine hK.out _ _ trivial (fun hHeld => ?_)
  clear hK K
  refine norm_ (a' := ?_) ?_ ?_
  rotate_left
  ·show Act.put _ (some 22) _ = _
   simp only [Act.put, List.setIfInBounds_toArray, List.set_cons_zero, List.set_cons_succ, i64_w, i32_w]
   rfl
  refine oz_ 8 (some 23) (fun K hK => ?_)
  have h3_ := (C_three w3.drew A0 A1 A3 c0 c1 (c0 - i) (l0.take i) l1 (l0.drop i) (Kd.C_drew (Kd.C_take (Kd.C_below HR.out HB3.out) HILE.out)) (by have := HC0.out; have := HILE.out; simp <;> omega) (Kd.C_drew (Kd.C_below HR1.out HB3.out)) HC1.out (Kd.C_drew (by rw [HA3.out]; exact Kd.C_drop (Kd.C_below HR.out HB3.out) HILE.out HC0.out)) (by have := HC0.out; simp <;> omega))
  (try simp only [List.length_take, List.length_drop, Nat.min_eq_left HILE.out] at h3_)
  have H3 := Aside0.mk h3_
  clear h3_
  refine goes_ Try.func59 (by kernel_rfl) rfl #[.slice (some ⟨w3.heap.size, 0, none⟩) 3 3] (by rfl) rfl rfl z26_ ?_
  refine (concat_calls _ 3 [l0.take i, l1, l0.drop i] _ H3.out (by simp) (by have := HL.out; have := HILE.out; simp <;> omega)).mono ?_
  rintro e w5 ⟨v5, rfl, hr5, hb5⟩
  have HB5 := Aside0.mk ((below_alloc (below_drew1 HB3.out) (.cells #[.slice A0 i c0, .slice A1 l1.length c1, .slice A3 (l0.length - i) (c0 - i)] 22)).trans (hb5.mono (by have := HB3.out.size; simp <;> omega)))
  have HR5 := Aside0.mk (show Kd.R k24 24 w5 w.heap.size (fun _ => True) v5 (l0.take i ++ l1 ++ l0.drop i) from by have h_ := Kd.R_lower hr5 (base' := w.heap.size) (by have := HB3.out.size; simp <;> omega); simpa using h_)
  clear hr5 hb5
  refine ⟨_, rfl, ?_⟩
  refine hK.out _ _ trivial (fun hHeld => ?_)
  clear hK K
  refine norm_ (a' := ?_) ?_ ?_
  rotate_left
  ·show Act.put _ (some 23) _ = _
   simp only [Act.put, List.setIfInBounds_toArray, List.set_cons_zero, List.set_cons_succ, i64_w, i32_w]
   rfl
  refine pz_ 9 (some 6) ?_
  refine done_ (done_of HT_.out (by kernel_rfl)) ?_

  go_wp2
  go_ret
  exact ⟨_, rfl, by rw [HI.out]; exact HR5.out, HB5.out⟩
end Go.Proofs.Ytpafhhgoldenoaa.P
end
section
namespace Go.Proofs.Ytpafhhgoldenoaa.P
open Go.RowKit Go.Proofs.YtpafhhgoldenoaaW.PrintWords Go.Proofs.YtpafhhgoldenoaaW.PrintLast Go.Proofs.YtpafhhgoldenoaaW.PrintMore
open Go.Proofs.Ytpafhhgoldenoaa.XM
set_option linter.unusedVariables false
set_option linter.unusedSimpArgs false
abbrev IdSet := List (Int × Bool)
def hasB (D : IdSet) (x : Int) : Bool := (mlook D x).getD false
theorem zero4 (w : World) : (zeroValue 4).run Try.prog w = .ok (.bool false) w := by kernel_rfl
theorem hasB_v (D : IdSet) (x : Int) (b : Bool) (h : hasB D x = b) : ((mlook D x).map Value.bool).getD (.bool false) = .bool b := by
 subst h
 unfold hasB
 cases mlook D x <;> rfl
set_option maxHeartbeats 2000000 in
set_option maxRecDepth 100000 in
theorem goes_calls (n : S24) (pm b : Nat) (D : IdSet) (w : World) (hp : w.heap[pm]? = some (.cells #[.map (some b)] 72 (0, 0))) (hM : MapAt (.int .i64) (Value.int .i64) Value.bool w b D) :
  Calls Try.prog 60 #[.agg #[.int .i64 n.f0, .int .i64 n.f1, .int .i64 n.f2, .int .i64 n.f3, .string n.f4], .pointer (some ⟨pm, 0, none⟩)] w fun e w' => e = .returned (.bool (hasB D n.f0 || hasB D n.f1)) ∧ Below w.heap.size w w' := by
 have hu24 := Try.underlying24
 have z0 : w.cell? ⟨pm, 0, none⟩ = some (.map (some b)) := blk_cell hp 0
 have hne : pm ≠ w.heap.size := by have := blk_lt hp; omega
 have hlt := blk_lt hp
 have HM := Aside0.mk hM
 clear hp hM
 cases h0 : hasB D n.f0 with
 | true =>
  have hl0 : ∀ o, (Instr.lookup 72 (.map (some b)) (.int .i64 n.f0) false).run Try.prog (w.alloc o) = .ok (.bool true) (w.alloc o) := fun o => (HM.out.alloc o).run_v (KeyOK.int .i64) Try.underlying72 Try.underlying3 (zero4 _) (hasB_v _ _ _ h0)
  clear h0
  go_enter Try.func60, Try.ntmps60
  go_wp2
  go_ret
  exact ⟨rfl, below_alloc (Below.refl _ _) _⟩
 | false =>
  cases h1 : hasB D n.f1 with
  | true =>
   have hl0 : ∀ o, (Instr.lookup 72 (.map (some b)) (.int .i64 n.f0) false).run Try.prog (w.alloc o) = .ok (.bool false) (w.alloc o) := fun o => (HM.out.alloc o).run_v (KeyOK.int .i64) Try.underlying72 Try.underlying3 (zero4 _) (hasB_v _ _ _ h0)
   have hl1 : ∀ o, (Instr.lookup 72 (.map (some b)) (.int .i64 n.f1) false).run Try.prog (w.alloc o) = .ok (.bool true) (w.alloc o) := fun o => (HM.out.alloc o).run_v (KeyOK.int .i64) Try.underlying72 Try.underlying3 (zero4 _) (hasB_v _ _ _ h1)
   clear h0 h1
   go_enter Try.func60, Try.ntmps60
   go_wp2
   go_ret
   exact ⟨rfl, below_alloc (Below.refl _ _) _⟩
  | false =>
   have hl0 : ∀ o, (Instr.lookup 72 (.map (some b)) (.int .i64 n.f0) false).run Try.prog (w.alloc o) = .ok (.bool false) (w.alloc o) := fun o => (HM.out.alloc o).run_v (KeyOK.int .i64) Try.underlying72 Try.underlying3 (zero4 _) (hasB_v _ _ _ h0)
   have hl1 : ∀ o, (Instr.lookup 72 (.map (some b)) (.int .i64 n.f1) false).run Try.prog (w.alloc o) = .ok (.bool false) (w.alloc o) := fun o => (HM.out.alloc o).run_v (KeyOK.int .i64) Try.underlying72 Try.underlying3 (zero4 _) (hasB_v _ _ _ h1)
   clear h0 h1
   go_enter Try.func60, Try.ntmps60
   go_wp2
   go_ret
   exact ⟨rfl, below_alloc (Below.refl _ _) _⟩
theorem goes_calls_r (r : Bool) (n : S24) (pm b : Nat) (D : IdSet) (w : World) (hr : (hasB D n.f0 || hasB D n.f1) = r) (hp : w.heap[pm]? = some (.cells #[.map (some b)] 72 (0, 0))) (hM : MapAt (.int .i64) (Value.int .i64) Value.bool w b D) :
  Calls Try.prog 60 #[.agg #[.int .i64 n.f0, .int .i64 n.f1, .int .i64 n.f2, .int .i64 n.f3, .string n.f4], .pointer (some ⟨pm, 0, none⟩)] w fun e w' => e = .returned (.bool r) ∧ Below w.heap.size w w' := by
 subst hr
 exact goes_calls n pm b D w hp hM
def spGo : List S24 → IdSet → List S24 → List S24 → List S24 × List S24
 | [], _, s, g => (s, g)
 | n :: r, D, s, g => if (hasB D n.f0 || hasB D n.f1) = true then spGo r (mput D n.f0 true) s (g ++ [n]) else spGo r D (s ++ [n]) g
def splitP (l : List S24) (id : Int) : List S24 × List S24 := spGo l [(id, true)] [] []
theorem drop_consS (l : List S24) (k : Nat) (h : k < l.length) : l.drop k = rd_T24 l k :: l.drop (k + 1) := by
 rw [List.drop_eq_getElem_cons h]
 congr 1
 simp [rd_T24, h]
set_option maxHeartbeats 4000000 in
set_option maxRecDepth 100000 in
theorem split_calls (A0 : Option Addr) (c0 : Nat) (l0 : List S24) (a1 : Int) (w : World) (hr0 : Kd.C k24 w A0 l0.length l0) (hc0 : l0.length ≤ c0) (hl : l0.length ≤ 4000) :
  Calls Try.prog 48 #[.slice A0 l0.length c0, .int .i64 a1] w fun e w' => ∃ v0_ v1_ : Value, e = .returned (.tuple #[v0_, v1_]) ∧ Kd.R k24 24 w' w.heap.size (fun k_ => some k_ ≠ (v1_ : Value).ownBlock) v0_ (splitP l0 a1).1 ∧ Kd.R k24 24 w' w.heap.size (fun k_ => some k_ ≠ (v0_ : Value).ownBlock) v1_ (splitP l0 a1).2 ∧ Below w.heap.size w w' := by
 have hu24 := Try.underlying24
 have hu72 := Try.underlying72
 have HR := Aside0.mk hr0
 clear hr0
 have hmm := @run_makeMap Try.prog
 have hM0 : MapAt (.int .i64) (Value.int .i64) Value.bool (w.alloc (.map #[] 0)) w.heap.size ([] : IdSet) := MapAt.made w
 have HM0 := Aside0.mk hM0
 clear hM0
 go_enter Try.func48, Try.ntmps48
 go_wp2_with (first | (refine wpList_insert_at _ rfl _ _ _ 72 rfl 3 4 (KeyOK.int .i64) Try.underlying72 Try.underlying3 rfl HM0.out a1 rfl true rfl ?_; intro w2 hM2 hg2; have HM2 := Aside0.mk hM2; have HB2 := Aside0.mk (Below.grown (below_alloc (Below.refl w.heap.size w) (.map #[] 0)) hg2 (by simp) (fun j hj => by cases hj; exact Nat.le_refl _)); clear hM2 hg2))
 have HP2 := Aside0.mk (show (w2.alloc (.cells #[.map (some w.heap.size)] 72)).heap[w2.heap.size]? = _ from heap_alloc_new w2 (.cells #[.map (some w.heap.size)] 72))
 have HM2' := Aside0.mk (HM2.out.alloc (.cells #[.map (some w.heap.size)] 72))
 have HB2' := Aside0.mk (below_alloc HB2.out (.cells #[.map (some w.heap.size)] 72))
 have hg2 : w.heap.size < w2.heap.size := HM2.out.lt
 clear HM2 HB2
 generalize w2.alloc (.cells #[.map (some w.heap.size)] 72) = w2' at HP2 HM2' HB2' ⊢
 generalize w2.heap.size = g2 at HP2 hg2 ⊢
 go_loopw [4, 5, 16] (fun v4 v5 v16 wr => ∃ (k : Nat) (D : IdSet) (s g : List S24), v16 = .int .i64 k ∧ k ≤ l0.length ∧ s.length + g.length = k ∧ Aside0 (spGo (l0.drop k) D s g = splitP l0 a1) ∧ Aside0 (MapAt (.int .i64) (Value.int .i64) Value.bool wr w.heap.size D) ∧ Aside0 (wr.heap[g2]? = some (.cells #[.map (some w.heap.size)] 72 (0, 0))) ∧ Aside0 (Kd.R k24 24 wr w.heap.size (fun k_ => some k_ ≠ (v5 : Value).ownBlock) v4 s) ∧ Aside0 (Kd.R k24 24 wr w.heap.size (fun k_ => some k_ ≠ (v4 : Value).ownBlock) v5 g) ∧ Aside0 (Below w.heap.size w wr)) (fun _ _ i _ => l0.length - (intOf i).toNat)
 case atStart => exact ⟨0, [(a1, true)], [], [], rfl, by omega, rfl, ⟨rfl⟩, HM2', HP2, ⟨Kd.R_nil _ _ _ _ _⟩, ⟨Kd.R_nil _ _ _ _ _⟩, HB2'⟩
 case round =>
  clear HP2 HM2' HB2'
  obtain ⟨k, D, s, g, rfl, hk, hlen, HG, HM, HP, HR4, HR5, HB⟩ := hrel
  obtain ⟨V4, rfl⟩ : ∃ V4 : Value, V4 = u4 := ⟨_, rfl⟩
  obtain ⟨V5, rfl⟩ : ∃ V5 : Value, V5 = u5 := ⟨_, rfl⟩
  by_cases hlt : k < l0.length
  ·obtain ⟨ad, e, x0, x1, x2, x3, x4⟩ := at_T24 (Kd.C_below HR.out HB.out) k (by omega) (by omega)
   cases e
   simp only [Int.toNat_natCast] at x0 x1 x2 x3 x4
   obtain ⟨n, hn⟩ : ∃ n, n = rd_T24 l0 k := ⟨_, rfl⟩
   rw [← hn] at x0 x1 x2 x3 x4
   have Hn := Aside0.mk hn
   clear hn
   have i1 : (0 : Int) ≤ k := by omega
   have i2 : (k : Int) < l0.length := by omega
   have Hl1 := Aside0.mk (show (s.length + 1) * 48 ≤ 140737488355328 by omega)
   have Hl2 := Aside0.mk (show (g.length + 1) * 48 ≤ 140737488355328 by omega)
   have Hlen := Aside0.mk hlen
   clear hlen
   cases hgo' : (hasB D n.f0 || hasB D n.f1) with
   | true =>
    have hgo := Aside0.mk hgo'
    clear hgo'
    have HG2 : Aside0 (spGo (l0.drop (k + 1)) (mput D n.f0 true) s (g ++ [n]) = splitP l0 a1) := ⟨by
     rw [← HG.out, drop_consS l0 k hlt, ← Hn.out]
     conv => rhs; simp only [spGo]
     rw [if_pos hgo.out]⟩
    go_wp2_with (first | (go_at_call 60; (with_reducible refine (goes_calls_r true n g2 w.heap.size D _ hgo.out (blk_alloc HP.out _) (HM.out.alloc _)).mono ?_); rintro e w3 ⟨rfl, hb3⟩; have HP3 := Aside0.mk ((hb3.block g2 (by have := blk_lt HP.out; simp; omega)).trans (blk_alloc HP.out (.cells #[.int .i64 n.f0, .int .i64 n.f1, .int .i64 n.f2, .int .i64 n.f3, .string n.f4] 24))); have HM3 := Aside0.mk ((HM.out.alloc (.cells #[.int .i64 n.f0, .int .i64 n.f1, .int .i64 n.f2, .int .i64 n.f3, .string n.f4] 24)).below hb3); have HN3 := Aside0.mk ((hb3.block wr.heap.size (by simp)).trans (heap_alloc_new wr (.cells #[.int .i64 n.f0, .int .i64 n.f1, .int .i64 n.f2, .int .i64 n.f3, .string n.f4] 24))); have HR43 := Aside0.mk (Kd.R_below (Kd.R_alloc HR4.out _) hb3); have HR53 := Aside0.mk (Kd.R_below (Kd.R_alloc HR5.out _) hb3); have HB3 := Aside0.mk ((below_alloc HB.out (.cells #[.int .i64 n.f0, .int .i64 n.f1, .int .i64 n.f2, .int .i64 n.f3, .string n.f4] 24)).trans (hb3.mono (by have := HB.out.size; simp; omega))); have hs3 : wr.heap.size < w3.heap.size := (by have := hb3.size; simp at this; omega); clear hb3; obtain ⟨G, hG⟩ : ∃ G, G = wr.heap.size := ⟨_, rfl⟩; rw [← hG] at HN3 hs3; simp only [← hG]; have HG' := Aside0.mk hG; clear hG; have y0 : w3.cell? ⟨G, 0, none⟩ = some (.int .i64 n.f0) := blk_cell HN3.out 0; have y1 : w3.cell? ⟨G, 1, none⟩ = some (.int .i64 n.f1) := blk_cell HN3.out 1; have y2 : w3.cell? ⟨G, 2, none⟩ = some (.int .i64 n.f2) := blk_cell HN3.out 2; have y3 : w3.cell? ⟨G, 3, none⟩ = some (.int .i64 n.f3) := blk_cell HN3.out 3; have y4 : w3.cell? ⟨G, 4, none⟩ = some (.string n.f4) := blk_cell HN3.out 4; have y6 : w3.cell? ⟨g2, 0, none⟩ = some (.map (some w.heap.size)) := blk_cell HP3.out 0) | (at_mapUpdate; refine wpList_mapUpdate_at _ rfl _ _ _ 72 rfl 3 4 (KeyOK.int .i64) Try.underlying72 Try.underlying3 rfl HM3.out n.f0 rfl true rfl ?_; intro w4 hM4 hg4; have HM4 := Aside0.mk hM4; have hb34 : w.heap.size < G := (by rw [HG'.out]; exact HM.out.lt); have HN4 := Aside0.mk ((hg4.block G hs3 (by intro e; injection e; omega)).trans HN3.out); have HP4 := Aside0.mk ((hg4.block g2 (blk_lt HP3.out) (by intro e; injection e; omega)).trans HP3.out); have HR44 := Aside0.mk (Kd.R_grown1 HR43.out rfl hg4 (HM3.out.ne_own (Kd.R_typed HR43.out))); have HR54 := Aside0.mk (Kd.R_grown1 HR53.out rfl hg4 (HM3.out.ne_own (Kd.R_typed HR53.out))); have HB4 := Aside0.mk (Below.grown HB3.out hg4 HB3.out.size (fun j hj => by cases hj; exact Nat.le_refl _)); clear hM4 hg4 y0 y1 y2 y3 y4 y6 x0 x1 x2 x3 x4; have y0 : w4.cell? ⟨G, 0, none⟩ = some (.int .i64 n.f0) := blk_cell HN4.out 0; have y1 : w4.cell? ⟨G, 1, none⟩ = some (.int .i64 n.f1) := blk_cell HN4.out 1; have y2 : w4.cell? ⟨G, 2, none⟩ = some (.int .i64 n.f2) := blk_cell HN4.out 2; have y3 : w4.cell? ⟨G, 3, none⟩ = some (.int .i64 n.f3) := blk_cell HN4.out 3; have y4 : w4.cell? ⟨G, 4, none⟩ = some (.string n.f4) := blk_cell HN4.out 4; have Hl := Hl2) | ((with_reducible refine gate_builtin (b := .append) (xs := #[.tmp 26, .tmp 28]) rfl ?_); at_builtin; refine Kd.R_append k24 (w0 := w) w.heap.size rfl (.tmp 26) (.tmp 28) 22 24 (.agg #[(.int .i64 0), (.int .i64 0), (.int .i64 0), (.int .i64 0), (.string ⟨#[]⟩)]) 48 rfl Try.underlying22 info24 rfl (by decide) (by omega) _ g n [.int .i64 n.f0, .int .i64 n.f1, .int .i64 n.f2, .int .i64 n.f3, .string n.f4] (fun k_ => some k_ ≠ (V4 : Value).ownBlock) (fun _ => False) rfl rfl (k24_mkM _ _ _ n) (fun _ hk => hk.elim) (fun k_ hk e_ => by have := Kd.R_lt HR44.out k_ e_.symm; omega) HR54.out HB4.out HB4.out.size (by have := Hl.out; omega) ?_; intro v9 w9 ho9 hb9 hg9 hat9; have HM9 := Aside0.mk (HM4.out.grown hg9 (HM4.out.ne_own (Kd.R_typed HR54.out))); have HP9 := Aside0.mk ((hg9.block g2 (blk_lt HP4.out) (Kd.R_ne HR54.out HP4.out (by decide))).trans HP4.out); have HR49 := Aside0.mk (Kd.R_mono (Kd.R_after (ok := fun _ => True) (Kd.R_mono HR44.out (fun k_ hk => ⟨trivial, hk⟩)) hg9 hat9) (fun k_ hk => hk.2)); have HR59 := Aside0.mk ho9; have HB9 := Aside0.mk hb9; clear ho9 hb9 hg9 hat9))
    go_roundw
    case rel => exact ⟨k + 1, _, s, g ++ [n], by go_num, by omega, by have := Hlen.out; simp; omega, HG2, HM9, HP9, HR49, HR59, HB9⟩
    case measure => simp [intOf]; omega
   | false =>
    have hgo := Aside0.mk hgo'
    clear hgo'
    have HG2 : Aside0 (spGo (l0.drop (k + 1)) D (s ++ [n]) g = splitP l0 a1) := ⟨by
     rw [← HG.out, drop_consS l0 k hlt, ← Hn.out]
     conv => rhs; simp only [spGo]
     rw [if_neg (by rw [hgo.out]; simp)]⟩
    go_wp2_with (first | (go_at_call 60; (with_reducible refine (goes_calls_r false n g2 w.heap.size D _ hgo.out (blk_alloc HP.out _) (HM.out.alloc _)).mono ?_); rintro e w3 ⟨rfl, hb3⟩; have HP3 := Aside0.mk ((hb3.block g2 (by have := blk_lt HP.out; simp; omega)).trans (blk_alloc HP.out (.cells #[.int .i64 n.f0, .int .i64 n.f1, .int .i64 n.f2, .int .i64 n.f3, .string n.f4] 24))); have HM3 := Aside0.mk ((HM.out.alloc (.cells #[.int .i64 n.f0, .int .i64 n.f1, .int .i64 n.f2, .int .i64 n.f3, .string n.f4] 24)).below hb3); have HN3 := Aside0.mk ((hb3.block wr.heap.size (by simp)).trans (heap_alloc_new wr (.cells #[.int .i64 n.f0, .int .i64 n.f1, .int .i64 n.f2, .int .i64 n.f3, .string n.f4] 24))); have HR43 := Aside0.mk (Kd.R_below (Kd.R_alloc HR4.out _) hb3); have HR53 := Aside0.mk (Kd.R_below (Kd.R_alloc HR5.out _) hb3); have HB3 := Aside0.mk ((below_alloc HB.out (.cells #[.int .i64 n.f0, .int .i64 n.f1, .int .i64 n.f2, .int .i64 n.f3, .string n.f4] 24)).trans (hb3.mono (by have := HB.out.size; simp; omega))); have hs3 : wr.heap.size < w3.heap.size := (by have := hb3.size; simp at this; omega); clear hb3; obtain ⟨G, hG⟩ : ∃ G, G = wr.heap.size := ⟨_, rfl⟩; rw [← hG] at HN3 hs3; simp only [← hG]; have HG' := Aside0.mk hG; clear hG; have y0 : w3.cell? ⟨G, 0, none⟩ = some (.int .i64 n.f0) := blk_cell HN3.out 0; have y1 : w3.cell? ⟨G, 1, none⟩ = some (.int .i64 n.f1) := blk_cell HN3.out 1; have y2 : w3.cell? ⟨G, 2, none⟩ = some (.int .i64 n.f2) := blk_cell HN3.out 2; have y3 : w3.cell? ⟨G, 3, none⟩ = some (.int .i64 n.f3) := blk_cell HN3.out 3; have y4 : w3.cell? ⟨G, 4, none⟩ = some (.string n.f4) := blk_cell HN3.out 4; have y6 : w3.cell? ⟨g2, 0, none⟩ = some (.map (some w.heap.size)) := blk_cell HP3.out 0; have Hl := Hl1; clear x0 x1 x2 x3 x4) | ((with_reducible refine gate_builtin (b := .append) (xs := #[.tmp 30, .tmp 32]) rfl ?_); at_builtin; refine Kd.R_append k24 (w0 := w) w.heap.size rfl (.tmp 30) (.tmp 32) 22 24 (.agg #[(.int .i64 0), (.int .i64 0), (.int .i64 0), (.int .i64 0), (.string ⟨#[]⟩)]) 48 rfl Try.underlying22 info24 rfl (by decide) (by omega) _ s n [.int .i64 n.f0, .int .i64 n.f1, .int .i64 n.f2, .int .i64 n.f3, .string n.f4] (fun k_ => some k_ ≠ (V5 : Value).ownBlock) (fun _ => False) rfl rfl (k24_mkM _ _ _ n) (fun _ hk => hk.elim) (fun k_ hk e_ => by have := Kd.R_lt HR53.out k_ e_.symm; omega) HR43.out HB3.out HB3.out.size (by have := Hl.out; omega) ?_; intro v9 w9 ho9 hb9 hg9 hat9; have HM9 := Aside0.mk (HM3.out.grown hg9 (HM3.out.ne_own (Kd.R_typed HR43.out))); have HP9 := Aside0.mk ((hg9.block g2 (blk_lt HP3.out) (Kd.R_ne HR43.out HP3.out (by decide))).trans HP3.out); have HR59 := Aside0.mk (Kd.R_mono (Kd.R_after (ok := fun _ => True) (Kd.R_mono HR53.out (fun k_ hk => ⟨trivial, hk⟩)) hg9 hat9) (fun k_ hk => hk.2)); have HR49 := Aside0.mk ho9; have HB9 := Aside0.mk hb9; clear ho9 hb9 hg9 hat9))
    go_roundw
    case rel => exact ⟨k + 1, D, s ++ [n], g, by go_num, by omega, by have := Hlen.out; simp; omega, HG2, HM9, HP9, HR49, HR59, HB9⟩
    case measure => simp [intOf]; omega
  ·obtain rfl : k = l0.length := by omega
   have hend : Aside0 (splitP l0 a1 = (s, g)) := ⟨by rw [← HG.out, List.drop_length]; rfl⟩
   clear hlen
   go_wp2
   go_ret2
   exact ⟨_, _, rfl, by rw [hend.out]; exact HR4.out, by rw [hend.out]; exact HR5.out, HB.out⟩
def tree_split.f (l0 : List S24) (a1 : Int) : Option (List S24 × List S24) := if l0.length ≤ 4000 then some (splitP l0 a1) else none
theorem tree_split.calls (A0 : Option Addr) (c0 : Nat) (l0 : List S24) (a1 : Int) (r1 : List S24) (r2 : List S24) (w : World) (hr0 : Kd.C k24 w A0 l0.length l0) (hc0 : l0.length ≤ c0) (h : tree_split.f l0 a1 = some (r1, r2)) :
  Calls Try.prog 48 #[.slice A0 l0.length c0, .int .i64 a1] w fun e w' => ∃ v0_ v1_ : Value, e = .returned (.tuple #[v0_, v1_]) ∧ Kd.R k24 24 w' w.heap.size (fun k_ => some k_ ≠ (v1_ : Value).ownBlock) v0_ r1 ∧ Kd.R k24 24 w' w.heap.size (fun k_ => some k_ ≠ (v0_ : Value).ownBlock) v1_ r2 ∧ Below w.heap.size w w' := by
 unfold tree_split.f at h
 split at h
 ·have h2 := Option.some.inj h
  have e1 : r1 = (splitP l0 a1).1 := by rw [h2]
  have e2 : r2 = (splitP l0 a1).2 := by rw [h2]
  subst e1 e2
  exact split_calls A0 c0 l0 a1 w hr0 hc0 (by assumption)
 ·cases h
end Go.Proofs.Ytpafhhgoldenoaa.P
end
section
namespace Go.Proofs.Ytpafhhgoldenoaa.P
open Go.RowKit Go.Proofs.YtpafhhgoldenoaaW.PrintWords Go.Proofs.YtpafhhgoldenoaaW.PrintLast Go.Proofs.YtpafhhgoldenoaaW.PrintMore
attribute [local go_sem] max2_int min2_int max_two min_two max_three min_three max_four min_four
set_option linter.unusedVariables false
set_option linter.unusedSimpArgs false
def tree_kids.l0 : Nat → Int → List Int → List (S24) → Int → Int → Option (List Int)
 | 0, _, _, _, _, _ => none
 | k + 1, x1, x5, x8, x9, x10 => if x10 < x9 then (if 0 ≤ x10 then (if x10 < (x8.length : Int) then (if ((rd_T24 x8 x10).f1) = x1 then (if x5.length < 17592186044416 then (tree_kids.l0 k x1 (x5 ++ [(rd_T24 x8 x10).f0]) x8 x9 (wrap64 (x10 + 1))) else (none)) else (tree_kids.l0 k x1 x5 x8 x9 (wrap64 (x10 + 1)))) else (none)) else (none)) else (some x5)
def tree_kids.f (k : Nat) (l0 : List (S24)) (a1 : Int) : Option (List Int) := tree_kids.l0 k a1 ([] : List Int) l0 (l0.length : Int) 0
theorem tree_kids.mono_l : ∀ k, (∀ y0 y1 y2 y3 y4, LeO (tree_kids.l0 k y0 y1 y2 y3 y4) (tree_kids.l0 (k + 1) y0 y1 y2 y3 y4))
 | 0 => fun _ _ _ _ _ r h => by simp [tree_kids.l0] at h
 | k + 1 => by
  have ih0 := tree_kids.mono_l k
  ·intro y0 y1 y2 y3 y4
   unfold tree_kids.l0
   repeat' first
   | (with_reducible exact ih0 _ _ _ _ _)
   | (with_reducible exact LeO.refl _)
   | (with_reducible exact LeO.none _)
   | (with_reducible refine LeO.ite ?_ ?_)
   | (with_reducible refine LeO.bind ?_ (fun _ => ?_))
   | exact ih0 _ _ _ _ _
   | exact LeO.none _
   | refine LeO.ite ?_ ?_
   | refine LeO.bind ?_ (fun _ => ?_)
theorem tree_kids.mono : ∀ a0 a1 k, LeO (tree_kids.f k a0 a1) (tree_kids.f (k + 1) a0 a1) := by
 intro a0 a1 k
 have ih0 := tree_kids.mono_l k
 unfold tree_kids.f
 repeat' first
   | (with_reducible exact ih0 _ _ _ _ _)
   | (with_reducible exact LeO.refl _)
   | (with_reducible exact LeO.none _)
   | (with_reducible refine LeO.ite ?_ ?_)
   | (with_reducible refine LeO.bind ?_ (fun _ => ?_))
   | exact ih0 _ _ _ _ _
   | exact LeO.none _
   | refine LeO.ite ?_ ?_
   | refine LeO.bind ?_ (fun _ => ?_)
set_option maxHeartbeats 8000000 in
set_option maxRecDepth 100000 in
theorem tree_kids.calls (k : Nat) (A0 : Option Addr) (c0 : Nat) (l0 : List (S24)) (a1 : Int) (r : List Int) (w : World) (hr0 : Kd.C k24 w A0 l0.length l0) (hc0 : l0.length ≤ c0) (h : tree_kids.f k l0 a1 = some r) :
  Calls Try.prog 38 #[.slice A0 l0.length c0, .int .i64 a1] w fun e w' => ∃ v0_ : Value, e = .returned (v0_) ∧ Kd.R (Kd.int .i64) 3 w' w.heap.size (fun _ => True) v0_ r ∧ Below w.heap.size w w' := by
 have hu24 := Try.underlying24
 have HR0 := Aside0.mk hr0
 have HC0 := Aside0.mk hc0
 clear hr0 hc0
 have HB := Aside0.mk (Below.refl w.heap.size w)
 have H : (tree_kids.l0 k a1 ([] : List Int) l0 (l0.length : Int) 0) = some r := h
 clear h
 have H' := Aside0.mk H
 clear H
 go_enter Try.func38, Try.ntmps38
 go_wp2
 go_loopg [5, 10] k (fun kq v5 v10 w' => ∃ (x5_1 : List Int) (x10_1 : Int), v10 = .int .i64 x10_1 ∧ Aside0 (tree_kids.l0 kq a1 x5_1 l0 (l0.length : Int) x10_1 = some r) ∧ Aside0 (kq ≤ k) ∧ Aside0 (Kd.R (Kd.int .i64) 3 w' w.heap.size (fun _ => True) v5 x5_1) ∧ Aside0 (Below w.heap.size w w'))
 case atStart => exact ⟨(([] : List Int)), (0), z8_, H', ⟨Nat.le_refl _⟩, ⟨by first | exact Kd.R_nil _ _ _ _ _ | exact Kd.N_nil _ _ _ _ _ | exact Kd.V_nil _ _ _ _ _ | exact Kd.Q_nil _ _ _ _ _ | exact Kd.S_nil _ _ _ _ _⟩, ⟨by repeat (first | (with_reducible first | exact HB.out | apply below_alloc | apply pw_below_drewN | apply below_drew1) | exact HB.out)⟩⟩
 case round =>
  clear H'
  try clear p2
  obtain ⟨x5_1, x10_1, rfl, HA, HK1, HO_5, HB⟩ := hrel
  cases gk with
  | zero => exact absurd HA.out (by simp [tree_kids.l0])
  | succ k1 =>
   have H := HA.out
   clear HA
   simp only [tree_kids.l0] at H
   by_cases c3 : x10_1 < (l0.length : Int)
   ·rw [if_pos c3] at H
    have c3b0 : decide (x10_1 < (l0.length : Int)) = true := decide_eq_true c3
    clear c3
    by_cases c4 : 0 ≤ x10_1
    rotate_left
    ·rw [if_neg c4] at H; exact absurd H (by simp)
    rw [if_pos c4] at H
    have c4b0 : decide (0 ≤ x10_1) = true := decide_eq_true c4
    clear c4
    by_cases c5 : x10_1 < (l0.length : Int)
    rotate_left
    ·rw [if_neg c5] at H; exact absurd H (by simp)
    rw [if_pos c5] at H
    have c5b0 : decide (x10_1 < (l0.length : Int)) = true := decide_eq_true c5
    clear c5
    by_cases c6 : ((rd_T24 l0 x10_1).f1) = a1
    ·rw [if_pos c6] at H
     have c6b0 : (((rd_T24 l0 x10_1).f1) == a1) = true := beq_iff_eq.mpr c6
     have c6b1 : (((rd_T24 l0 x10_1).f1) != a1) = false := bne_eq_false_iff_eq.mpr c6
     clear c6
     by_cases c7 : x5_1.length < 17592186044416
     rotate_left
     ·rw [if_neg c7] at H; exact absurd H (by simp)
     rw [if_pos c7] at H
     have LMc7 := Aside0.mk c7
     clear c7
     obtain ⟨y115, hy115⟩ : ∃ y_ : List Int, y_ = (x5_1 ++ [(rd_T24 l0 x10_1).f0]) := ⟨_, rfl⟩
     replace H : (tree_kids.l0 k1 a1 y115 l0 (l0.length : Int) (wrap64 (x10_1 + 1))) = some r := by first | (rw [hy115]; with_reducible exact H) | (have H2_ := (Option.bind_some _ _).symm.trans H; rw [hy115]; with_reducible exact H2_) | (have H2_ := (Option.bind_some _ _).symm.trans H; with_reducible exact H2_) | with_reducible exact H | (rw [hy115]; exact H) | exact H
     have Ny115 := Aside0.mk hy115
     clear hy115
     have H' := Aside0.mk H
     clear H
     have p113 : 0 ≤ (x10_1 : Int) := of_decide_eq_true z3_
     have q113 : x10_1 < (l0.length : Int) := of_decide_eq_true z3_
     obtain ⟨ad113, e113, hx113_0, hx113_1, hx113_2, hx113_3, hx113_4⟩ := at_T24 HR0.out x10_1 p113 q113
     cases e113
     replace hx113_0 := hbc_ HB.out hx113_0
     replace hx113_1 := hbc_ HB.out hx113_1
     replace hx113_2 := hbc_ HB.out hx113_2
     replace hx113_3 := hbc_ HB.out hx113_3
     replace hx113_4 := hbc_ HB.out hx113_4
     replace p113 := eq_true p113
     replace q113 := eq_true q113
     go_wp2_with (first | ((with_reducible refine gate_dst (N := 7) rfl ?_); refine box_event ?hg (N := 7) ?hd (cs := #[.int .i64 0, .int .i64 0, .int .i64 0, .int .i64 0, .string (⟨#[]⟩ : ByteArray)]) (t := 24) ?hr ?_; (case hd => rfl); (case hg => rfl); (case hr => exact z11_); intro gb114 hg w8 hbox hb; have n0_ := Aside0.mk (Kd.R_below (by (with_reducible repeat (first | apply Kd.R_alloc | apply Kd.R_drewN | apply Kd.R_drew)); exact HO_5.out) hb); have n1_ := Aside0.mk (below_step z1_ hb); have n2_ := Aside0.mk (hbox); have n3_ := Aside0.mk ((by rw [hg]; exact (below_size z1_) : w.heap.size ≤ gb114)); have n4_ := Aside0.mk ((by rw [hg]; exact (below_size z1_) : w.heap.size ≤ gb114)); clear HO_5; clear HB; have HO_5 := n0_; have HB := n1_; have BK114 := n2_; have GW114 := n3_; have GE114 := n4_; clear n0_ n1_ n2_ n3_ n4_; clear hb hbox hg; have hcz9_0 : w8.cell? ⟨gb114, 0, none⟩ = some (.int .i64 0) := (blk_cell BK114.out 0).trans rfl; have hcz9_1 : w8.cell? ⟨gb114, 1, none⟩ = some (.int .i64 0) := (blk_cell BK114.out 1).trans rfl; have hcz9_2 : w8.cell? ⟨gb114, 2, none⟩ = some (.int .i64 0) := (blk_cell BK114.out 2).trans rfl; have hcz9_3 : w8.cell? ⟨gb114, 3, none⟩ = some (.int .i64 0) := (blk_cell BK114.out 3).trans rfl; have hcz9_4 : w8.cell? ⟨gb114, 4, none⟩ = some (.string (⟨#[]⟩ : ByteArray)) := (blk_cell BK114.out 4).trans rfl; have hfz9_0 := blk_frozen BK114.out 0; have hfz9_1 := blk_frozen BK114.out 1; have hfz9_2 := blk_frozen BK114.out 2; have hfz9_3 := blk_frozen BK114.out 3; have hfz9_4 := blk_frozen BK114.out 4) | ((with_reducible refine gate_builtin (b := .append) (xs := #[.tmp 18, .tmp 21]) rfl ?_); at_builtin; refine Kd.R_append (Kd.int .i64) (w0 := w) w.heap.size rfl (.tmp 18) (.tmp 21) 30 3 (.int .i64 0) 8 rfl Try.underlying30 info3 rfl (by decide) (by omega) u5 x5_1 ((rd_T24 l0 x10_1).f0) [.int .i64 ((rd_T24 l0 x10_1).f0)] (fun _ => True) (fun _ => False) rfl z11_ ?aP (fun _ hk => hk.elim) ?aF ?aO ?aB ?aS ?aL ?_; (case aP => exact rfl); (case aB => exact (by repeat (first | (with_reducible first | exact HB.out | apply below_alloc | apply pw_below_drewN | apply below_drew1 | refine below_set ?_ GE114.out) | exact HB.out))); (case aF => exact (fun _ _ => trivial)); (case aO => exact (by (with_reducible repeat (first | apply Kd.R_alloc | apply Kd.R_drewN | apply Kd.R_drew)); exact Kd.R_mono (Kd.R_far (p := ⟨gb114, 4, none⟩) (Kd.R_far (p := ⟨gb114, 3, none⟩) (Kd.R_far (p := ⟨gb114, 2, none⟩) (Kd.R_far (p := ⟨gb114, 1, none⟩) (Kd.R_far (p := ⟨gb114, 0, none⟩) (Kd.R_types HO_5.out BK114.out (by decide)) (fun _ hk => hk.2) (.int .i64 ((rd_T24 l0 x10_1).f0))) (fun _ hk => hk.2) (.int .i64 ((rd_T24 l0 x10_1).f1))) (fun _ hk => hk.2) (.int .i64 ((rd_T24 l0 x10_1).f2))) (fun _ hk => hk.2) (.int .i64 ((rd_T24 l0 x10_1).f3))) (fun _ hk => hk.2) (.string ((rd_T24 l0 x10_1).f4))) (fun _ hk => trivial))); (case aS => exact (below_size (by repeat (first | (with_reducible first | exact HB.out | apply below_alloc | apply pw_below_drewN | apply below_drew1 | refine below_set ?_ GE114.out) | exact HB.out)))); (case aL => have := LMc7.out; omega); intro v116 w10 ho hb hg hat; rw [← Ny115.out] at ho; have n0_ := Aside0.mk (blk_grown (g := gb114) (o := .cells #[.int .i64 ((rd_T24 l0 x10_1).f0), .int .i64 ((rd_T24 l0 x10_1).f1), .int .i64 ((rd_T24 l0 x10_1).f2), .int .i64 ((rd_T24 l0 x10_1).f3), .string ((rd_T24 l0 x10_1).f4)] 24 (0, 0)) (by (with_reducible repeat (first | refine blk_drewN ?_ _ | refine blk_drew ?_ | refine blk_alloc ?_ _)); refine blk_put (cs := #[.int .i64 ((rd_T24 l0 x10_1).f0), .int .i64 ((rd_T24 l0 x10_1).f1), .int .i64 ((rd_T24 l0 x10_1).f2), .int .i64 ((rd_T24 l0 x10_1).f3), .string (⟨#[]⟩ : ByteArray)]) ?_ 4 _ rfl; (with_reducible repeat (first | refine blk_drewN ?_ _ | refine blk_drew ?_ | refine blk_alloc ?_ _)); refine blk_put (cs := #[.int .i64 ((rd_T24 l0 x10_1).f0), .int .i64 ((rd_T24 l0 x10_1).f1), .int .i64 ((rd_T24 l0 x10_1).f2), .int .i64 0, .string (⟨#[]⟩ : ByteArray)]) ?_ 3 _ rfl; (with_reducible repeat (first | refine blk_drewN ?_ _ | refine blk_drew ?_ | refine blk_alloc ?_ _)); refine blk_put (cs := #[.int .i64 ((rd_T24 l0 x10_1).f0), .int .i64 ((rd_T24 l0 x10_1).f1), .int .i64 0, .int .i64 0, .string (⟨#[]⟩ : ByteArray)]) ?_ 2 _ rfl; (with_reducible repeat (first | refine blk_drewN ?_ _ | refine blk_drew ?_ | refine blk_alloc ?_ _)); refine blk_put (cs := #[.int .i64 ((rd_T24 l0 x10_1).f0), .int .i64 0, .int .i64 0, .int .i64 0, .string (⟨#[]⟩ : ByteArray)]) ?_ 1 _ rfl; (with_reducible repeat (first | refine blk_drewN ?_ _ | refine blk_drew ?_ | refine blk_alloc ?_ _)); refine blk_put (cs := #[.int .i64 0, .int .i64 0, .int .i64 0, .int .i64 0, .string (⟨#[]⟩ : ByteArray)]) ?_ 0 _ rfl; (with_reducible repeat (first | refine blk_drewN ?_ _ | refine blk_drew ?_ | refine blk_alloc ?_ _)); exact BK114.out) hg (Kd.R_ne HO_5.out BK114.out (by decide))); have n1_ := Aside0.mk (hb); have n2_ := Aside0.mk (ho); clear BK114; clear HB; clear HO_5; have BK114 := n0_; have HB := n1_; have HO117 := n2_; clear n0_ n1_ n2_; clear ho hb hg hat))
     go_roundg k1
     case measure => have := HK1.out; omega
     case rel => exact ⟨(y115), (wrap64 (x10_1 + 1)), z8_, H', ⟨by have := HK1.out; omega⟩, ⟨by (with_reducible repeat (first | apply Kd.R_alloc | apply Kd.R_drewN | apply Kd.R_drew)); exact HO117.out⟩, ⟨by repeat (first | (with_reducible first | exact HB.out | apply below_alloc | apply pw_below_drewN | apply below_drew1 | refine below_set ?_ GE114.out) | exact HB.out)⟩⟩
    ·rw [if_neg c6] at H
     have c6b0 : (((rd_T24 l0 x10_1).f1) == a1) = false := beq_eq_false_iff_ne.mpr c6
     have c6b1 : (((rd_T24 l0 x10_1).f1) != a1) = true := bne_iff_ne.mpr c6
     have H' := Aside0.mk H
     clear H
     have p113 : 0 ≤ (x10_1 : Int) := of_decide_eq_true z3_
     have q113 : x10_1 < (l0.length : Int) := of_decide_eq_true z3_
     obtain ⟨ad113, e113, hx113_0, hx113_1, hx113_2, hx113_3, hx113_4⟩ := at_T24 HR0.out x10_1 p113 q113
     cases e113
     replace hx113_0 := hbc_ HB.out hx113_0
     replace hx113_1 := hbc_ HB.out hx113_1
     replace hx113_2 := hbc_ HB.out hx113_2
     replace hx113_3 := hbc_ HB.out hx113_3
     replace hx113_4 := hbc_ HB.out hx113_4
     replace p113 := eq_true p113
     replace q113 := eq_true q113
     go_wp2_with (first | ((with_reducible refine gate_dst (N := 7) rfl ?_); refine box_event ?hg (N := 7) ?hd (cs := #[.int .i64 0, .int .i64 0, .int .i64 0, .int .i64 0, .string (⟨#[]⟩ : ByteArray)]) (t := 24) ?hr ?_; (case hd => rfl); (case hg => rfl); (case hr => exact z11_); intro gb114 hg w11 hbox hb; have n0_ := Aside0.mk (Kd.R_below (by (with_reducible repeat (first | apply Kd.R_alloc | apply Kd.R_drewN | apply Kd.R_drew)); exact HO_5.out) hb); have n1_ := Aside0.mk (below_step z1_ hb); have n2_ := Aside0.mk (hbox); have n3_ := Aside0.mk ((by rw [hg]; exact (below_size z1_) : w.heap.size ≤ gb114)); have n4_ := Aside0.mk ((by rw [hg]; exact (below_size z1_) : w.heap.size ≤ gb114)); clear HO_5; clear HB; have HO_5 := n0_; have HB := n1_; have BK114 := n2_; have GW114 := n3_; have GE114 := n4_; clear n0_ n1_ n2_ n3_ n4_; clear hb hbox hg; have hcz12_0 : w11.cell? ⟨gb114, 0, none⟩ = some (.int .i64 0) := (blk_cell BK114.out 0).trans rfl; have hcz12_1 : w11.cell? ⟨gb114, 1, none⟩ = some (.int .i64 0) := (blk_cell BK114.out 1).trans rfl; have hcz12_2 : w11.cell? ⟨gb114, 2, none⟩ = some (.int .i64 0) := (blk_cell BK114.out 2).trans rfl; have hcz12_3 : w11.cell? ⟨gb114, 3, none⟩ = some (.int .i64 0) := (blk_cell BK114.out 3).trans rfl; have hcz12_4 : w11.cell? ⟨gb114, 4, none⟩ = some (.string (⟨#[]⟩ : ByteArray)) := (blk_cell BK114.out 4).trans rfl; have hfz12_0 := blk_frozen BK114.out 0; have hfz12_1 := blk_frozen BK114.out 1; have hfz12_2 := blk_frozen BK114.out 2; have hfz12_3 := blk_frozen BK114.out 3; have hfz12_4 := blk_frozen BK114.out 4))
     go_roundg k1
     case measure => have := HK1.out; omega
     case rel => exact ⟨(x5_1), (wrap64 (x10_1 + 1)), z8_, H', ⟨by have := HK1.out; omega⟩, ⟨by (with_reducible repeat (first | apply Kd.R_alloc | apply Kd.R_drewN | apply Kd.R_drew)); exact Kd.R_mono (Kd.R_far (p := ⟨gb114, 4, none⟩) (Kd.R_far (p := ⟨gb114, 3, none⟩) (Kd.R_far (p := ⟨gb114, 2, none⟩) (Kd.R_far (p := ⟨gb114, 1, none⟩) (Kd.R_far (p := ⟨gb114, 0, none⟩) (Kd.R_types HO_5.out BK114.out (by decide)) (fun _ hk => hk.2) (.int .i64 ((rd_T24 l0 x10_1).f0))) (fun _ hk => hk.2) (.int .i64 ((rd_T24 l0 x10_1).f1))) (fun _ hk => hk.2) (.int .i64 ((rd_T24 l0 x10_1).f2))) (fun _ hk => hk.2) (.int .i64 ((rd_T24 l0 x10_1).f3))) (fun _ hk => hk.2) (.string ((rd_T24 l0 x10_1).f4))) (fun _ hk => trivial)⟩, ⟨by repeat (first | (with_reducible first | exact HB.out | apply below_alloc | apply pw_below_drewN | apply below_drew1 | refine below_set ?_ GE114.out) | exact HB.out)⟩⟩
   ·rw [if_neg c3] at H
    have c3b0 : decide (x10_1 < (l0.length : Int)) = false := decide_eq_false c3
    clear c3
    obtain rfl := Option.some.inj H
    go_wp2
    go_ret
    exact ⟨_, by first | rfl | (simp [errW_none, errW_some] <;> rfl) | (simp [*, errW_none, errW_some] <;> rfl), by (with_reducible repeat (first | apply Kd.R_alloc | apply Kd.R_drewN | apply Kd.R_drew)); exact HO_5.out, by repeat (first | (with_reducible first | exact HB.out | apply below_alloc | apply pw_below_drewN | apply below_drew1) | exact HB.out)⟩
end Go.Proofs.Ytpafhhgoldenoaa.P
end
section
namespace Go.Proofs.Ytpafhhgoldenoaa.P
open Go.RowKit Go.Proofs.YtpafhhgoldenoaaW.PrintWords Go.Proofs.YtpafhhgoldenoaaW.PrintLast Go.Proofs.YtpafhhgoldenoaaW.PrintMore
attribute [local go_sem] max2_int min2_int max_two min_two max_three min_three max_four min_four
set_option linter.unusedVariables false
set_option linter.unusedSimpArgs false
def slices_Index_int_int.l0 : Nat → List Int → Int → Int → Int → Option (Int)
 | 0, _, _, _, _ => none
 | k + 1, x0, x1, x7, x8 => if x8 < x7 then (if 0 ≤ x8 then (if x8 < (x0.length : Int) then (if x1 = (rd x0 x8) then (some x8) else (slices_Index_int_int.l0 k x0 x1 x7 (wrap64 (x8 + 1)))) else (none)) else (none)) else (some (-1))
def slices_Index_int_int.f (k : Nat) (l0 : List Int) (a1 : Int) : Option (Int) := slices_Index_int_int.l0 k l0 a1 (l0.length : Int) 0
set_option maxHeartbeats 8000000 in
set_option maxRecDepth 100000 in
theorem slices_Index_int_int.calls (k : Nat) (A0 : Option Addr) (c0 : Nat) (l0 : List Int) (a1 : Int) (r : Int) (w : World) (hr0 : Kd.C (Kd.int .i64) w A0 l0.length l0) (hc0 : l0.length ≤ c0) (h : slices_Index_int_int.f k l0 a1 = some r) :
  Calls Try.prog 56 #[.slice A0 l0.length c0, .int .i64 a1] w fun e w' => e = .returned (.int .i64 r) ∧ Drawn0 w w' := by
 have HR0 := Aside0.mk hr0
 have HC0 := Aside0.mk hc0
 clear hr0 hc0
 have H : (slices_Index_int_int.l0 k l0 a1 (l0.length : Int) 0) = some r := h
 clear h
 have H' := Aside0.mk H
 clear H
 go_enter Try.func56, Try.ntmps56
 go_wp2
 go_loopg [8] k (fun kq v8 w' => ∃ (x8_1 : Int), v8 = .int .i64 x8_1 ∧ Aside0 (slices_Index_int_int.l0 kq l0 a1 (l0.length : Int) x8_1 = some r) ∧ Aside0 (kq ≤ k) ∧ Drawn0 w w')
 case atStart => exact ⟨(0), z8_, H', ⟨Nat.le_refl _⟩, by repeat (first | exact Drawn0.refl _ | apply Drawn0.step)⟩
 case round =>
  clear H'
  try clear p2
  obtain ⟨x8_1, rfl, HA, HK1, ⟨m1, rfl⟩⟩ := hrel
  cases gk with
  | zero => exact absurd HA.out (by simp [slices_Index_int_int.l0])
  | succ k1 =>
   have H := HA.out
   clear HA
   simp only [slices_Index_int_int.l0] at H
   by_cases c3 : x8_1 < (l0.length : Int)
   ·rw [if_pos c3] at H
    have c3b0 : decide (x8_1 < (l0.length : Int)) = true := decide_eq_true c3
    clear c3
    by_cases c4 : 0 ≤ x8_1
    rotate_left
    ·rw [if_neg c4] at H; exact absurd H (by simp)
    rw [if_pos c4] at H
    have c4b0 : decide (0 ≤ x8_1) = true := decide_eq_true c4
    clear c4
    by_cases c5 : x8_1 < (l0.length : Int)
    rotate_left
    ·rw [if_neg c5] at H; exact absurd H (by simp)
    rw [if_pos c5] at H
    have c5b0 : decide (x8_1 < (l0.length : Int)) = true := decide_eq_true c5
    clear c5
    by_cases c6 : a1 = (rd l0 x8_1)
    ·rw [if_pos c6] at H
     have c6b0 : (a1 == (rd l0 x8_1)) = true := beq_iff_eq.mpr c6
     have c6b1 : (a1 != (rd l0 x8_1)) = false := bne_eq_false_iff_eq.mpr c6
     clear c6
     obtain rfl := Option.some.inj H
     have p134 : 0 ≤ (x8_1 : Int) := of_decide_eq_true z3_
     have q134 : x8_1 < (l0.length : Int) := of_decide_eq_true z3_
     obtain ⟨ad134, e134, hx134_0⟩ := Kd.at_int HR0.out x8_1 p134 q134
     cases e134
     replace p134 := eq_true p134
     replace q134 := eq_true q134
     go_wp2
     go_ret
     exact ⟨by first | rfl | (simp; done) | (simp [*]; done), by repeat (first | exact Drawn0.refl _ | apply Drawn0.step)⟩
    ·rw [if_neg c6] at H
     have c6b0 : (a1 == (rd l0 x8_1)) = false := beq_eq_false_iff_ne.mpr c6
     have c6b1 : (a1 != (rd l0 x8_1)) = true := bne_iff_ne.mpr c6
     have H' := Aside0.mk H
     clear H
     have p134 : 0 ≤ (x8_1 : Int) := of_decide_eq_true z3_
     have q134 : x8_1 < (l0.length : Int) := of_decide_eq_true z3_
     obtain ⟨ad134, e134, hx134_0⟩ := Kd.at_int HR0.out x8_1 p134 q134
     cases e134
     replace p134 := eq_true p134
     replace q134 := eq_true q134
     go_wp2
     go_roundg k1
     case measure => have := HK1.out; omega
     case rel => exact ⟨(wrap64 (x8_1 + 1)), z8_, H', ⟨by have := HK1.out; omega⟩, by repeat (first | exact Drawn0.refl _ | apply Drawn0.step)⟩
   ·rw [if_neg c3] at H
    have c3b0 : decide (x8_1 < (l0.length : Int)) = false := decide_eq_false c3
    clear c3
    obtain rfl := Option.some.inj H
    go_wp2
    go_ret
    exact ⟨by first | rfl | (simp; done) | (simp [*]; done), by repeat (first | exact Drawn0.refl _ | apply Drawn0.step)⟩
end Go.Proofs.Ytpafhhgoldenoaa.P
end
section
namespace Go.Proofs.Ytpafhhgoldenoaa.P
open Go.RowKit Go.Proofs.YtpafhhgoldenoaaW.PrintWords Go.Proofs.YtpafhhgoldenoaaW.PrintLast Go.Proofs.YtpafhhgoldenoaaW.PrintMore
attribute [local go_sem] max2_int min2_int max_two min_two max_three min_three max_four min_four
set_option linter.unusedVariables false
set_option linter.unusedSimpArgs false
def slices_Contains_int_int.f (k : Nat) (l0 : List Int) (a1 : Int) : Option (Bool) := (slices_Index_int_int.f k l0 a1).bind fun t135 => (some (decide (t135 ≥ 0)))
set_option maxHeartbeats 8000000 in
set_option maxRecDepth 100000 in
theorem slices_Contains_int_int.calls (k : Nat) (A0 : Option Addr) (c0 : Nat) (l0 : List Int) (a1 : Int) (r : Bool) (w : World) (hr0 : Kd.C (Kd.int .i64) w A0 l0.length l0) (hc0 : l0.length ≤ c0) (h : slices_Contains_int_int.f k l0 a1 = some r) :
  Calls Try.prog 43 #[.slice A0 l0.length c0, .int .i64 a1] w fun e w' => e = .returned (.bool r) ∧ Drawn0 w w' := by
 have HR0 := Aside0.mk hr0
 have HC0 := Aside0.mk hc0
 clear hr0 hc0
 have H : ((slices_Index_int_int.f k l0 a1).bind fun t135 => (some (decide (t135 ≥ 0)))) = some r := h
 clear h
 replace H := Option.bind_eq_some_iff.mp H
 obtain ⟨t135, A30, H⟩ := H
 try dsimp only at H
 have A3 := Aside0.mk A30
 clear A30
 obtain rfl := Option.some.inj H
 go_enter Try.func43, Try.ntmps43
 go_wp2_with (first | ((with_reducible refine gate_callee (f := 56) rfl ?_); refine goesL_ (some 7) rfl rfl Try.func56 (by kernel_rfl) rfl #[.slice A0 l0.length c0, .int .i64 a1] rfl z2_ ?_; (with_reducible refine (slices_Index_int_int.calls k _ _ l0 a1 t135 _ ?side1 ?side2 A3.out).mono ?_); (case side1 => exact z9_); (case side2 => exact HC0.out); rintro e w' ⟨rfl, ⟨nd, rfl⟩⟩; refine ⟨_, rfl, ?_⟩))
 go_ret
 exact ⟨by first | rfl | (simp; done) | (simp [*]; done), by repeat (first | exact Drawn0.refl _ | apply Drawn0.step)⟩
end Go.Proofs.Ytpafhhgoldenoaa.P
end
section
namespace Go.Proofs.Ytpafhhgoldenoaa.P
open Go.RowKit Go.Proofs.YtpafhhgoldenoaaW.PrintWords Go.Proofs.YtpafhhgoldenoaaW.PrintLast Go.Proofs.YtpafhhgoldenoaaW.PrintMore
open Go.Proofs.Ytpafhhgoldenoaa.XM
set_option linter.unusedVariables false
set_option linter.unusedSimpArgs false
theorem rd_nat {l : List S24} {k : Nat} (h : k < l.length) : rd_T24 l (k : Int) = l[k] := by simp [rd_T24, h]
theorem plStep_inv {l : List S24} {k : Nat} {n : S24} {D D' : Places} (h : PInv k D) (hs : plStep l k n D = some D') : PInv (k + 1) D' := by
 unfold plStep at hs
 split at hs
 ·cases hs
 split at hs
 ·cases hs
 split at hs
 ·cases hs
 split at hs
 ·cases hs
 rename_i h30
 obtain rfl := Option.some.inj hs
 intro x v hx
 rw [mlook_mput] at hx
 have hp : 0 ≤ ((mlook D n.f1).getD (0, 0)).2 ∧ ((mlook D n.f1).getD (0, 0)).2 ≤ 30 := by
  cases hm : mlook D n.f1 with
  | none => simp
  | some u => have := h _ _ hm; simp only [Option.getD_some]; omega
 by_cases e : n.f0 = x
 ·rw [if_pos e] at hx
  obtain rfl := (Option.some.inj hx).symm
  refine ⟨?_, ?_, ?_, ?_⟩ <;> simp <;> omega
 ·rw [if_neg e] at hx
  have := h x v hx
  omega
theorem plGo_inv {l : List S24} : ∀ (r : List S24) (k : Nat) (D D' : Places), PInv k D → plGo l k r D = some D' → PInv (k + r.length) D'
 | [], k, D, D', h, hs => by simp only [plGo] at hs; obtain rfl := Option.some.inj hs; simpa using h
 | n :: r, k, D, D', h, hs => by
  simp only [plGo] at hs
  obtain ⟨D1, h1, h2⟩ := Option.bind_eq_some_iff.1 hs
  have := plGo_inv r (k + 1) D1 D' (plStep_inv h h1) h2
  simpa [Nat.add_assoc, Nat.add_comm 1] using this
theorem placesP_some {l : List S24} {D : Places} (h : placesP l = some D) : 0 < l.length ∧ l.length ≤ 4000 ∧ (rd_T24 l 0).f1 = 0 ∧ (rd_T24 l 0).f2 = 1 ∧ plGo l 0 l [] = some D ∧ PInv l.length D := by
 unfold placesP at h
 split at h
 ·cases h
 ·rename_i hc
  refine ⟨by omega, by omega, by simpa using fun e => hc (.inr (.inr (.inl e))), by simpa using fun e => hc (.inr (.inr (.inr e))), h, ?_⟩
  have := plGo_inv l 0 [] D (fun x v hx => by simp [mlook_nil] at hx) h
  simpa using this
def kidsL (l : List S24) (a : Int) : List Int := (l.filter (fun n => decide (n.f1 = a))).map (·.f0)
theorem kids_go (l : List S24) (a : Int) (hl : l.length ≤ 4000) : ∀ (d : Nat) (k : Nat) (acc : List Int) (i : Nat), i ≤ l.length → l.length - i ≤ d → acc.length ≤ i → d < k →
  tree_kids.l0 k a acc l (l.length : Int) i = some (acc ++ kidsL (l.drop i) a) := by
 intro d
 induction d with
 | zero =>
  intro k acc i hi hd ha hk
  obtain ⟨k, rfl⟩ : ∃ m, k = m + 1 := ⟨k - 1, by omega⟩
  obtain rfl : i = l.length := by omega
  simp only [tree_kids.l0]
  rw [if_neg (by omega)]
  simp [kidsL]
 | succ d ih =>
  intro k acc i hi hd ha hk
  obtain ⟨k, rfl⟩ : ∃ m, k = m + 1 := ⟨k - 1, by omega⟩
  by_cases hlt : i < l.length
  ·simp only [tree_kids.l0]
   have w1 : wrap64 ((i : Int) + 1) = ((i + 1 : Nat) : Int) := by unfold wrap64; omega
   rw [if_pos (by omega), if_pos (by omega), if_pos (by omega), w1, List.drop_eq_getElem_cons hlt, rd_nat hlt]
   by_cases he : l[i].f1 = a
   ·rw [if_pos he, if_pos (by omega), ih k _ (i + 1) (by omega) (by omega) (by simp; omega) (by omega)]
    generalize l.drop (i + 1) = T
    simp [kidsL, he]
   ·rw [if_neg he, ih k _ (i + 1) (by omega) (by omega) (by omega) (by omega)]
    generalize l.drop (i + 1) = T
    simp [kidsL, he]
  ·obtain rfl : i = l.length := by omega
   simp only [tree_kids.l0]
   rw [if_neg (by omega)]
   simp [kidsL]
theorem kids_f (l : List S24) (a : Int) (hl : l.length ≤ 4000) : tree_kids.f 4001 l a = some (kidsL l a) := by
 unfold tree_kids.f
 exact kids_go l a hl l.length 4001 [] 0 (by omega) (by omega) (by simp) (by omega)
theorem kidsL_len (l : List S24) (a : Int) : (kidsL l a).length ≤ l.length := by
 unfold kidsL
 rw [List.length_map]
 exact List.length_filter_le _ _
theorem index_go (l : List Int) (a : Int) (hl : l.length ≤ 4000) : ∀ (d : Nat) (k : Nat) (i : Nat), i ≤ l.length → l.length - i ≤ d → d < k →
  ∃ r, slices_Index_int_int.l0 k l a (l.length : Int) i = some r ∧ (decide (r ≥ 0) = decide (a ∈ l.drop i)) := by
 intro d
 induction d with
 | zero =>
  intro k i hi hd hk
  obtain ⟨k, rfl⟩ : ∃ m, k = m + 1 := ⟨k - 1, by omega⟩
  obtain rfl : i = l.length := by omega
  simp only [slices_Index_int_int.l0]
  rw [if_neg (by omega)]
  exact ⟨_, rfl, by simp⟩
 | succ d ih =>
  intro k i hi hd hk
  obtain ⟨k, rfl⟩ : ∃ m, k = m + 1 := ⟨k - 1, by omega⟩
  by_cases hlt : i < l.length
  ·simp only [slices_Index_int_int.l0]
   have w1 : wrap64 ((i : Int) + 1) = ((i + 1 : Nat) : Int) := by unfold wrap64; omega
   have e : rd l (i : Int) = l[i] := by simp [rd, hlt]
   rw [if_pos (by omega), if_pos (by omega), if_pos (by omega), w1, e, List.drop_eq_getElem_cons hlt]
   by_cases he : a = l[i]
   ·rw [if_pos he]
    exact ⟨_, rfl, by simp [← he]⟩
   ·rw [if_neg he]
    obtain ⟨r, h1, h2⟩ := ih k (i + 1) (by omega) (by omega) (by omega)
    exact ⟨r, h1, by rw [h2]; generalize l.drop (i + 1) = T; simp [he]⟩
  ·obtain rfl : i = l.length := by omega
   simp only [slices_Index_int_int.l0]
   rw [if_neg (by omega)]
   exact ⟨_, rfl, by simp⟩
theorem contains_f (l : List Int) (a : Int) (hl : l.length ≤ 4000) : slices_Contains_int_int.f 4001 l a = some (decide (a ∈ l)) := by
 unfold slices_Contains_int_int.f slices_Index_int_int.f
 obtain ⟨r, h1, h2⟩ := index_go l a hl l.length 4001 0 (by omega) (by omega) (by omega)
 have h1' : slices_Index_int_int.l0 4001 l a (l.length : Int) 0 = some r := h1
 rw [h1', Option.bind_some, h2]
 simp
def insertP (l : List S24) (n : S24) (b : Int) : Option (List S24 × Int) :=
 match placesP l with
 | none => some ([], 1)
 | some D =>
  if b ≠ 0 ∧ idB b = false then some ([], 1)
  else if formedB n = false then some ([], 1)
  else if n.f1 = 0 then some ([], 1)
  else if (mlook D n.f0).isSome = true then some ([], 5)
  else match mlook D n.f1 with
   | none => some ([], 4)
   | some p =>
    if b ≠ 0 ∧ b ∉ kidsL l n.f1 then some ([], 24)
    else if standsB n.f2 (rd_T24 l p.1).f2 = false then some ([], 25)
    else if l.length = 4000 ∨ p.2 = 30 then some ([], 2)
    else (putP l [n] b).map (fun r => (r, 0))
end Go.Proofs.Ytpafhhgoldenoaa.P
end
section
namespace Go.Proofs.Ytpafhhgoldenoaa.P
open Go.RowKit Go.Proofs.YtpafhhgoldenoaaW.PrintWords Go.Proofs.YtpafhhgoldenoaaW.PrintLast Go.Proofs.YtpafhhgoldenoaaW.PrintMore
attribute [local go_sem] max2_int min2_int max_two min_two max_three min_three max_four min_four
set_option linter.unusedVariables false
set_option linter.unusedSimpArgs false
def formeref10_Index.l0 : Nat → List (S24) → Int → Int → Option (Int)
 | 0, _, _, _ => none
 | k + 1, x0, x1, x5 => if x5 < (x0.length : Int) then (if 0 ≤ x5 then (if ((rd_T24 x0 x5).f0) = x1 then (some x5) else (formeref10_Index.l0 k x0 x1 (wrap64 (x5 + 1)))) else (none)) else (some (-1))
def formeref10_Index.f (k : Nat) (l0 : List (S24)) (a1 : Int) : Option (Int) := formeref10_Index.l0 k l0 a1 0
set_option maxHeartbeats 8000000 in
set_option maxRecDepth 100000 in
theorem formeref10_Index.calls (k : Nat) (A0 : Option Addr) (c0 : Nat) (l0 : List (S24)) (a1 : Int) (r : Int) (w : World) (hr0 : Kd.C k24 w A0 l0.length l0) (hc0 : l0.length ≤ c0) (h : formeref10_Index.f k l0 a1 = some r) :
  Calls Try.prog 34 #[.slice A0 l0.length c0, .int .i64 a1] w fun e w' => e = .returned (.int .i64 r) ∧ Drawn0 w w' := by
 have HR0 := Aside0.mk hr0
 have HC0 := Aside0.mk hc0
 clear hr0 hc0
 have H : (formeref10_Index.l0 k l0 a1 0) = some r := h
 clear h
 have H' := Aside0.mk H
 clear H
 go_enter Try.func34, Try.ntmps34
 go_wp2
 go_loopg [5] k (fun kq v5 w' => ∃ (x5_1 : Int), v5 = .int .i64 x5_1 ∧ Aside0 (formeref10_Index.l0 kq l0 a1 x5_1 = some r) ∧ Aside0 (kq ≤ k) ∧ Drawn0 w w')
 case atStart => exact ⟨(0), z8_, H', ⟨Nat.le_refl _⟩, by repeat (first | exact Drawn0.refl _ | apply Drawn0.step)⟩
 case round =>
  clear H'
  try clear p2
  obtain ⟨x5_1, rfl, HA, HK1, ⟨m1, rfl⟩⟩ := hrel
  cases gk with
  | zero => exact absurd HA.out (by simp [formeref10_Index.l0])
  | succ k1 =>
   have H := HA.out
   clear HA
   simp only [formeref10_Index.l0] at H
   by_cases c3 : x5_1 < (l0.length : Int)
   ·rw [if_pos c3] at H
    have c3b0 : decide (x5_1 < (l0.length : Int)) = true := decide_eq_true c3
    clear c3
    by_cases c4 : 0 ≤ x5_1
    rotate_left
    ·rw [if_neg c4] at H; exact absurd H (by simp)
    rw [if_pos c4] at H
    have c4b0 : decide (0 ≤ x5_1) = true := decide_eq_true c4
    clear c4
    by_cases c5 : ((rd_T24 l0 x5_1).f0) = a1
    ·rw [if_pos c5] at H
     have c5b0 : (((rd_T24 l0 x5_1).f0) == a1) = true := beq_iff_eq.mpr c5
     have c5b1 : (((rd_T24 l0 x5_1).f0) != a1) = false := bne_eq_false_iff_eq.mpr c5
     clear c5
     obtain rfl := Option.some.inj H
     have p221 : 0 ≤ (x5_1 : Int) := of_decide_eq_true z3_
     have q221 : x5_1 < (l0.length : Int) := of_decide_eq_true z3_
     obtain ⟨ad221, e221, hx221_0, hx221_1, hx221_2, hx221_3, hx221_4⟩ := at_T24 HR0.out x5_1 p221 q221
     cases e221
     replace p221 := eq_true p221
     replace q221 := eq_true q221
     go_wp2
     go_ret
     exact ⟨by first | rfl | (simp; done) | (simp [*]; done), by repeat (first | exact Drawn0.refl _ | apply Drawn0.step)⟩
    ·rw [if_neg c5] at H
     have c5b0 : (((rd_T24 l0 x5_1).f0) == a1) = false := beq_eq_false_iff_ne.mpr c5
     have c5b1 : (((rd_T24 l0 x5_1).f0) != a1) = true := bne_iff_ne.mpr c5
     have H' := Aside0.mk H
     clear H
     have p221 : 0 ≤ (x5_1 : Int) := of_decide_eq_true z3_
     have q221 : x5_1 < (l0.length : Int) := of_decide_eq_true z3_
     obtain ⟨ad221, e221, hx221_0, hx221_1, hx221_2, hx221_3, hx221_4⟩ := at_T24 HR0.out x5_1 p221 q221
     cases e221
     replace p221 := eq_true p221
     replace q221 := eq_true q221
     go_wp2
     go_roundg k1
     case measure => have := HK1.out; omega
     case rel => exact ⟨(wrap64 (x5_1 + 1)), z8_, H', ⟨by have := HK1.out; omega⟩, by repeat (first | exact Drawn0.refl _ | apply Drawn0.step)⟩
   ·rw [if_neg c3] at H
    have c3b0 : decide (x5_1 < (l0.length : Int)) = false := decide_eq_false c3
    clear c3
    obtain rfl := Option.some.inj H
    go_wp2
    go_ret
    exact ⟨by first | rfl | (simp; done) | (simp [*]; done), by repeat (first | exact Drawn0.refl _ | apply Drawn0.step)⟩
end Go.Proofs.Ytpafhhgoldenoaa.P
end
section
namespace Go.Proofs.Ytpafhhgoldenoaa.P
open Go.RowKit Go.Proofs.YtpafhhgoldenoaaW.PrintWords Go.Proofs.YtpafhhgoldenoaaW.PrintLast Go.Proofs.YtpafhhgoldenoaaW.PrintMore
attribute [local go_sem] max2_int min2_int max_two min_two max_three min_three max_four min_four
set_option linter.unusedVariables false
set_option linter.unusedSimpArgs false
def formeref10_ID.f (a0 : Int) : Option (Bool) := if a0 ≥ 1 then (some (decide (a0 ≤ 1000000))) else (some false)
set_option maxHeartbeats 8000000 in
set_option maxRecDepth 100000 in
theorem formeref10_ID.calls (a0 : Int) (r : Bool) (w : World) (h : formeref10_ID.f a0 = some r) :
  Calls Try.prog 33 #[.int .i64 a0] w fun e w' => e = .returned (.bool r) ∧ Drawn0 w w' := by
 have H : (if a0 ≥ 1 then (some (decide (a0 ≤ 1000000))) else (some false)) = some r := h
 clear h
 by_cases c2 : a0 ≥ 1
 ·rw [if_pos c2] at H
  have c2b0 : decide (1 ≤ a0) = true := decide_eq_true c2
  clear c2
  obtain rfl := Option.some.inj H
  go_enter Try.func33, Try.ntmps33
  go_wp2
  go_ret
  exact ⟨by first | rfl | (simp; done) | (simp [*]; done), by repeat (first | exact Drawn0.refl _ | apply Drawn0.step)⟩
 ·rw [if_neg c2] at H
  have c2b0 : decide (1 ≤ a0) = false := decide_eq_false c2
  clear c2
  obtain rfl := Option.some.inj H
  go_enter Try.func33, Try.ntmps33
  go_wp2
  go_ret
  exact ⟨by first | rfl | (simp; done) | (simp [*]; done), by repeat (first | exact Drawn0.refl _ | apply Drawn0.step)⟩
end Go.Proofs.Ytpafhhgoldenoaa.P
end
section
namespace Go.Proofs.Ytpafhhgoldenoaa.P
open Go.RowKit Go.Proofs.YtpafhhgoldenoaaW.PrintWords Go.Proofs.YtpafhhgoldenoaaW.PrintLast Go.Proofs.YtpafhhgoldenoaaW.PrintMore
attribute [local go_sem] max2_int min2_int max_two min_two max_three min_three max_four min_four
set_option linter.unusedVariables false
set_option linter.unusedSimpArgs false
mutual
def formeref06_Class.j0 : Nat → Int → Bool → Option (Int)
 | 0, _, _ => none
 | k + 1, x0, x8 => if x8 = true then (some 1) else (if x0 ≥ 65 then (formeref06_Class.j1 k x0 (decide (x0 ≤ 90))) else (formeref06_Class.j1 k x0 false))
def formeref06_Class.j1 : Nat → Int → Bool → Option (Int)
 | 0, _, _ => none
 | k + 1, x0, x14 => if x14 = true then (some 2) else (if x0 ≥ 48 then (formeref06_Class.j2 k x0 (decide (x0 ≤ 57))) else (formeref06_Class.j2 k x0 false))
def formeref06_Class.j2 : Nat → Int → Bool → Option (Int)
 | 0, _, _ => none
 | k + 1, x0, x20 => if x20 = true then (some 3) else (if x0 = 32 then (some 4) else (if x0 = 126 then (some 6) else (if x0 > 32 then (if x0 < 126 then (some 5) else (some 0)) else (some 0))))
end
def formeref06_Class.f (k : Nat) (a0 : Int) : Option (Int) := if a0 ≥ 97 then (formeref06_Class.j0 k a0 (decide (a0 ≤ 122))) else (formeref06_Class.j0 k a0 false)
set_option maxHeartbeats 8000000 in
set_option maxRecDepth 100000 in
theorem formeref06_Class.calls (k : Nat) (a0 : Int) (r : Int) (w : World) (h : formeref06_Class.f k a0 = some r) :
  Calls Try.prog 61 #[.int .u8 a0] w fun e w' => e = .returned (.int .i64 r) ∧ Drawn0 w w' := by
 have H : (if a0 ≥ 97 then (formeref06_Class.j0 k a0 (decide (a0 ≤ 122))) else (formeref06_Class.j0 k a0 false)) = some r := h
 clear h
 have HC2 := Aside0.mk H
 clear H
 go_enter Try.func61, Try.ntmps61
 go_upto_region 1 with (fail)
 go_cut [8] (fun v8 wc => ∃ (kq : Nat) (x8_1 : Bool), v8 = .bool x8_1 ∧ Aside0 (formeref06_Class.j0 kq a0 x8_1 = some r) ∧ Aside0 (kq ≤ k) ∧ Drawn0 w wc)
 case first =>
  have H := HC2.out
  clear HC2
  by_cases c3 : a0 ≥ 97
  ·rw [if_pos c3] at H
   have c3b0 : decide (97 ≤ a0) = true := decide_eq_true c3
   clear c3
   (first | rw [c3b0] | (simp only [i64_w, i32_w]; rw [c3b0]) | skip)
   have H' := Aside0.mk H
   clear H
   go_wp2
   go_meet
   case rel => exact ⟨_, (decide (a0 ≤ 122)), z8_, H', ⟨by first | omega | exact Nat.le_refl _⟩, by repeat (first | exact Drawn0.refl _ | apply Drawn0.step)⟩
  ·rw [if_neg c3] at H
   have c3b0 : decide (97 ≤ a0) = false := decide_eq_false c3
   clear c3
   (first | rw [c3b0] | (simp only [i64_w, i32_w]; rw [c3b0]) | skip)
   have H' := Aside0.mk H
   clear H
   go_wp2
   go_meet
   case rel => exact ⟨_, (false), z8_, H', ⟨by first | omega | exact Nat.le_refl _⟩, by repeat (first | exact Drawn0.refl _ | apply Drawn0.step)⟩
 case rest =>
  clear HC2
  try clear p2
  try clear c3
  try clear c3b0
  obtain ⟨kq, x8_1, rfl, HA, HJ1, ⟨mc1, rfl⟩⟩ := hcut
  cases kq with
  | zero => exact absurd HA.out (by simp [formeref06_Class.j0])
  | succ kj1 =>
   have H := HA.out
   clear HA
   simp only [formeref06_Class.j0] at H
   by_cases c4 : x8_1 = true
   ·subst c4
    have H1 : (some 1) = some r := by rw [if_pos rfl] at H; exact H
    clear H
    have H := H1
    clear H1
    obtain rfl := Option.some.inj H
    go_wp2
    go_ret
    exact ⟨by first | rfl | (simp; done) | (simp [*]; done), by repeat (first | exact Drawn0.refl _ | apply Drawn0.step)⟩
   ·replace c4 := Bool.eq_false_iff.mpr c4
    subst c4
    have H1 : (if a0 ≥ 65 then (formeref06_Class.j1 kj1 a0 (decide (a0 ≤ 90))) else (formeref06_Class.j1 kj1 a0 false)) = some r := by rw [if_neg (show ¬ (false = true) by decide)] at H; exact H
    clear H
    have H := H1
    clear H1
    have HC5 := Aside0.mk H
    clear H
    go_upto_region 3 with (fail)
    go_cut [14] (fun v14 wc => ∃ (kq : Nat) (x14_4 : Bool), v14 = .bool x14_4 ∧ Aside0 (formeref06_Class.j1 kq a0 x14_4 = some r) ∧ Aside0 (kq ≤ kj1) ∧ Drawn0 w wc)
    case first =>
     have H := HC5.out
     clear HC5
     by_cases c6 : a0 ≥ 65
     ·rw [if_pos c6] at H
      have c6b0 : decide (65 ≤ a0) = true := decide_eq_true c6
      clear c6
      (first | rw [c6b0] | (simp only [i64_w, i32_w]; rw [c6b0]) | skip)
      have H' := Aside0.mk H
      clear H
      go_wp2
      go_meet
      case rel => exact ⟨_, (decide (a0 ≤ 90)), z8_, H', ⟨by have := HJ1.out; first | omega | exact Nat.le_refl _⟩, by repeat (first | exact Drawn0.refl _ | apply Drawn0.step)⟩
     ·rw [if_neg c6] at H
      have c6b0 : decide (65 ≤ a0) = false := decide_eq_false c6
      clear c6
      (first | rw [c6b0] | (simp only [i64_w, i32_w]; rw [c6b0]) | skip)
      have H' := Aside0.mk H
      clear H
      go_wp2
      go_meet
      case rel => exact ⟨_, (false), z8_, H', ⟨by have := HJ1.out; first | omega | exact Nat.le_refl _⟩, by repeat (first | exact Drawn0.refl _ | apply Drawn0.step)⟩
    case rest =>
     clear HC5
     try clear c1
     try clear p2
     try clear c3
     try clear c3b0
     try clear c4
     try clear c6
     try clear c6b0
     try clear p2
     obtain ⟨kq, x14_4, rfl, HA, HJ4, ⟨mc4, rfl⟩⟩ := hcut
     cases kq with
     | zero => exact absurd HA.out (by simp [formeref06_Class.j1])
     | succ kj4 =>
      have H := HA.out
      clear HA
      simp only [formeref06_Class.j1] at H
      by_cases c7 : x14_4 = true
      ·subst c7
       have H1 : (some 2) = some r := by rw [if_pos rfl] at H; exact H
       clear H
       have H := H1
       clear H1
       obtain rfl := Option.some.inj H
       go_wp2
       go_ret
       exact ⟨by first | rfl | (simp; done) | (simp [*]; done), by repeat (first | exact Drawn0.refl _ | apply Drawn0.step)⟩
      ·replace c7 := Bool.eq_false_iff.mpr c7
       subst c7
       have H1 : (if a0 ≥ 48 then (formeref06_Class.j2 kj4 a0 (decide (a0 ≤ 57))) else (formeref06_Class.j2 kj4 a0 false)) = some r := by rw [if_neg (show ¬ (false = true) by decide)] at H; exact H
       clear H
       have H := H1
       clear H1
       have HC8 := Aside0.mk H
       clear H
       go_upto_region 5 with (fail)
       go_cut [20] (fun v20 wc => ∃ (kq : Nat) (x20_7 : Bool), v20 = .bool x20_7 ∧ Aside0 (formeref06_Class.j2 kq a0 x20_7 = some r) ∧ Aside0 (kq ≤ kj4) ∧ Drawn0 w wc)
       case first =>
        have H := HC8.out
        clear HC8
        by_cases c9 : a0 ≥ 48
        ·rw [if_pos c9] at H
         have c9b0 : decide (48 ≤ a0) = true := decide_eq_true c9
         clear c9
         (first | rw [c9b0] | (simp only [i64_w, i32_w]; rw [c9b0]) | skip)
         have H' := Aside0.mk H
         clear H
         go_wp2
         go_meet
         case rel => exact ⟨_, (decide (a0 ≤ 57)), z8_, H', ⟨by have := HJ1.out; have := HJ4.out; first | omega | exact Nat.le_refl _⟩, by repeat (first | exact Drawn0.refl _ | apply Drawn0.step)⟩
        ·rw [if_neg c9] at H
         have c9b0 : decide (48 ≤ a0) = false := decide_eq_false c9
         clear c9
         (first | rw [c9b0] | (simp only [i64_w, i32_w]; rw [c9b0]) | skip)
         have H' := Aside0.mk H
         clear H
         go_wp2
         go_meet
         case rel => exact ⟨_, (false), z8_, H', ⟨by have := HJ1.out; have := HJ4.out; first | omega | exact Nat.le_refl _⟩, by repeat (first | exact Drawn0.refl _ | apply Drawn0.step)⟩
       case rest =>
        clear HC8
        try clear c1
        try clear p2
        try clear c3
        try clear c3b0
        try clear c4
        try clear c6
        try clear c6b0
        try clear c7
        try clear c9
        try clear c9b0
        try clear p2
        obtain ⟨kq, x20_7, rfl, HA, HJ7, ⟨mc7, rfl⟩⟩ := hcut
        cases kq with
        | zero => exact absurd HA.out (by simp [formeref06_Class.j2])
        | succ kj7 =>
         have H := HA.out
         clear HA
         simp only [formeref06_Class.j2] at H
         by_cases c10 : x20_7 = true
         ·subst c10
          have H1 : (some 3) = some r := by rw [if_pos rfl] at H; exact H
          clear H
          have H := H1
          clear H1
          obtain rfl := Option.some.inj H
          go_wp2
          go_ret
          exact ⟨by first | rfl | (simp; done) | (simp [*]; done), by repeat (first | exact Drawn0.refl _ | apply Drawn0.step)⟩
         ·replace c10 := Bool.eq_false_iff.mpr c10
          subst c10
          have H1 : (if a0 = 32 then (some 4) else (if a0 = 126 then (some 6) else (if a0 > 32 then (if a0 < 126 then (some 5) else (some 0)) else (some 0)))) = some r := by rw [if_neg (show ¬ (false = true) by decide)] at H; exact H
          clear H
          have H := H1
          clear H1
          by_cases c11 : a0 = 32
          ·rw [if_pos c11] at H
           have c11b0 : (a0 == 32) = true := beq_iff_eq.mpr c11
           have c11b1 : (a0 != 32) = false := bne_eq_false_iff_eq.mpr c11
           clear c11
           obtain rfl := Option.some.inj H
           go_wp2
           go_ret
           exact ⟨by first | rfl | (simp; done) | (simp [*]; done), by repeat (first | exact Drawn0.refl _ | apply Drawn0.step)⟩
          ·rw [if_neg c11] at H
           have c11b0 : (a0 == 32) = false := beq_eq_false_iff_ne.mpr c11
           have c11b1 : (a0 != 32) = true := bne_iff_ne.mpr c11
           by_cases c12 : a0 = 126
           ·rw [if_pos c12] at H
            have c12b0 : (a0 == 126) = true := beq_iff_eq.mpr c12
            have c12b1 : (a0 != 126) = false := bne_eq_false_iff_eq.mpr c12
            clear c12
            obtain rfl := Option.some.inj H
            go_wp2
            go_ret
            exact ⟨by first | rfl | (simp; done) | (simp [*]; done), by repeat (first | exact Drawn0.refl _ | apply Drawn0.step)⟩
           ·rw [if_neg c12] at H
            have c12b0 : (a0 == 126) = false := beq_eq_false_iff_ne.mpr c12
            have c12b1 : (a0 != 126) = true := bne_iff_ne.mpr c12
            by_cases c13 : a0 > 32
            ·rw [if_pos c13] at H
             have c13b0 : decide (32 < a0) = true := decide_eq_true c13
             clear c13
             by_cases c14 : a0 < 126
             ·rw [if_pos c14] at H
              have c14b0 : decide (a0 < 126) = true := decide_eq_true c14
              clear c14
              obtain rfl := Option.some.inj H
              go_wp2
              go_ret
              exact ⟨by first | rfl | (simp; done) | (simp [*]; done), by repeat (first | exact Drawn0.refl _ | apply Drawn0.step)⟩
             ·rw [if_neg c14] at H
              have c14b0 : decide (a0 < 126) = false := decide_eq_false c14
              clear c14
              obtain rfl := Option.some.inj H
              go_wp2
              go_ret
              exact ⟨by first | rfl | (simp; done) | (simp [*]; done), by repeat (first | exact Drawn0.refl _ | apply Drawn0.step)⟩
            ·rw [if_neg c13] at H
             have c13b0 : decide (32 < a0) = false := decide_eq_false c13
             clear c13
             obtain rfl := Option.some.inj H
             go_wp2
             go_ret
             exact ⟨by first | rfl | (simp; done) | (simp [*]; done), by repeat (first | exact Drawn0.refl _ | apply Drawn0.step)⟩
end Go.Proofs.Ytpafhhgoldenoaa.P
end
section
namespace Go.Proofs.Ytpafhhgoldenoaa.P
open Go.RowKit Go.Proofs.YtpafhhgoldenoaaW.PrintWords Go.Proofs.YtpafhhgoldenoaaW.PrintLast Go.Proofs.YtpafhhgoldenoaaW.PrintMore
attribute [local go_sem] max2_int min2_int max_two min_two max_three min_three max_four min_four
set_option linter.unusedVariables false
set_option linter.unusedSimpArgs false
def formeref06_Valid.l0 : Nat → ByteArray → Int → Option (Bool)
 | 0, _, _ => none
 | k + 1, x0, x3 => if x3 < (x0.size : Int) then (if 0 ≤ x3 then ((formeref06_Class.f k (bt x0 x3)).bind fun t222 => (if t222 = 0 then (some false) else (formeref06_Valid.l0 k x0 (wrap64 (x3 + 1))))) else (none)) else (some (decide ((x0.size : Int) ≤ 2000)))
def formeref06_Valid.f (k : Nat) (a0 : ByteArray) : Option (Bool) := formeref06_Valid.l0 k a0 0
set_option maxHeartbeats 8000000 in
set_option maxRecDepth 100000 in
theorem formeref06_Valid.calls (k : Nat) (a0 : ByteArray) (r : Bool) (w : World) (h : formeref06_Valid.f k a0 = some r) :
  Calls Try.prog 53 #[.string a0] w fun e w' => e = .returned (.bool r) ∧ Drawn0 w w' := by
 have H : (formeref06_Valid.l0 k a0 0) = some r := h
 clear h
 have H' := Aside0.mk H
 clear H
 go_enter Try.func53, Try.ntmps53
 go_wp2
 go_loopg [3] k (fun kq v3 w' => ∃ (x3_1 : Int), v3 = .int .i64 x3_1 ∧ Aside0 (formeref06_Valid.l0 kq a0 x3_1 = some r) ∧ Aside0 (kq ≤ k) ∧ Drawn0 w w')
 case atStart => exact ⟨(0), z8_, H', ⟨Nat.le_refl _⟩, by repeat (first | exact Drawn0.refl _ | apply Drawn0.step)⟩
 case round =>
  clear H'
  obtain ⟨x3_1, rfl, HA, HK1, ⟨m1, rfl⟩⟩ := hrel
  cases gk with
  | zero => exact absurd HA.out (by simp [formeref06_Valid.l0])
  | succ k1 =>
   have H := HA.out
   clear HA
   simp only [formeref06_Valid.l0] at H
   by_cases c2 : x3_1 < (a0.size : Int)
   ·rw [if_pos c2] at H
    have c2b0 : decide (x3_1 < (a0.size : Int)) = true := decide_eq_true c2
    clear c2
    by_cases c3 : 0 ≤ x3_1
    rotate_left
    ·rw [if_neg c3] at H; exact absurd H (by simp)
    rw [if_pos c3] at H
    have c3b0 : decide (0 ≤ x3_1) = true := decide_eq_true c3
    clear c3
    replace H := Option.bind_eq_some_iff.mp H
    obtain ⟨t222, A50, H⟩ := H
    try dsimp only at H
    have A5 := Aside0.mk A50
    clear A50
    by_cases c6 : t222 = 0
    ·rw [if_pos c6] at H
     have c6b0 : (t222 == 0) = true := beq_iff_eq.mpr c6
     have c6b1 : (t222 != 0) = false := bne_eq_false_iff_eq.mpr c6
     clear c6
     obtain rfl := Option.some.inj H
     have p4 : 0 ≤ (x3_1 : Int) := of_decide_eq_true z3_
     have q4 : x3_1 < (a0.size : Int) := of_decide_eq_true z3_
     have hx4 := bt_at a0 x3_1
     replace p4 := eq_true p4
     replace q4 := eq_true q4
     go_wp2_with (first | ((with_reducible refine gate_callee (f := 61) rfl ?_); refine goesL_ (some 13) rfl rfl Try.func61 (by kernel_rfl) rfl #[.int .u8 (bt a0 x3_1)] rfl z2_ ?_; (with_reducible refine (formeref06_Class.calls k1 (bt a0 x3_1) t222 _ A5.out).mono ?_); rintro e w' ⟨rfl, ⟨nd, rfl⟩⟩; refine ⟨_, rfl, ?_⟩))
     go_ret
     exact ⟨by first | rfl | (simp; done) | (simp [*]; done), by repeat (first | exact Drawn0.refl _ | apply Drawn0.step)⟩
    ·rw [if_neg c6] at H
     have c6b0 : (t222 == 0) = false := beq_eq_false_iff_ne.mpr c6
     have c6b1 : (t222 != 0) = true := bne_iff_ne.mpr c6
     have H' := Aside0.mk H
     clear H
     have p4 : 0 ≤ (x3_1 : Int) := of_decide_eq_true z3_
     have q4 : x3_1 < (a0.size : Int) := of_decide_eq_true z3_
     have hx4 := bt_at a0 x3_1
     replace p4 := eq_true p4
     replace q4 := eq_true q4
     go_wp2_with (first | ((with_reducible refine gate_callee (f := 61) rfl ?_); refine goesL_ (some 13) rfl rfl Try.func61 (by kernel_rfl) rfl #[.int .u8 (bt a0 x3_1)] rfl z2_ ?_; (with_reducible refine (formeref06_Class.calls k1 (bt a0 x3_1) t222 _ A5.out).mono ?_); rintro e w' ⟨rfl, ⟨nd, rfl⟩⟩; refine ⟨_, rfl, ?_⟩))
     go_roundg k1
     case measure => have := HK1.out; omega
     case rel => exact ⟨(wrap64 (x3_1 + 1)), z8_, H', ⟨by have := HK1.out; omega⟩, by repeat (first | exact Drawn0.refl _ | apply Drawn0.step)⟩
   ·rw [if_neg c2] at H
    have c2b0 : decide (x3_1 < (a0.size : Int)) = false := decide_eq_false c2
    clear c2
    obtain rfl := Option.some.inj H
    go_wp2
    go_ret
    exact ⟨by first | rfl | (simp; done) | (simp [*]; done), by repeat (first | exact Drawn0.refl _ | apply Drawn0.step)⟩
end Go.Proofs.Ytpafhhgoldenoaa.P
end
section
namespace Go.Proofs.Ytpafhhgoldenoaa.P
open Go.RowKit Go.Proofs.YtpafhhgoldenoaaW.PrintWords Go.Proofs.YtpafhhgoldenoaaW.PrintLast Go.Proofs.YtpafhhgoldenoaaW.PrintMore
attribute [local go_sem] max2_int min2_int max_two min_two max_three min_three max_four min_four
set_option linter.unusedVariables false
set_option linter.unusedSimpArgs false
def formeref10_Node.f (k : Nat) (a0_0 : Int) (a0_1 : Int) (a0_2 : Int) (a0_3 : Int) (a0_4 : ByteArray) : Option (Bool) := (formeref06_Valid.f k a0_4).bind fun t224 => (if t224 = true then ((formeref10_ID.f a0_0).bind fun t225 => (if t225 = true then (if a0_2 < 1 then (some false) else (if a0_2 > 11 then (some false) else (if a0_3 < 0 then (some false) else (if a0_3 > 100 then (some false) else (if a0_1 < 0 then (some false) else (if a0_1 > 1000000 then (some false) else (if a0_4.toList = ([] : List UInt8) then (some true) else (if a0_2 = 2 then (some true) else (some (a0_2 == 11)))))))))) else (some false))) else (some false))
set_option maxHeartbeats 8000000 in
set_option maxRecDepth 100000 in
theorem formeref10_Node.calls (k : Nat) (a0_0 : Int) (a0_1 : Int) (a0_2 : Int) (a0_3 : Int) (a0_4 : ByteArray) (r : Bool) (w : World) (h : formeref10_Node.f k a0_0 a0_1 a0_2 a0_3 a0_4 = some r) :
  Calls Try.prog 35 #[.agg #[.int .i64 a0_0, .int .i64 a0_1, .int .i64 a0_2, .int .i64 a0_3, .string a0_4]] w fun e w' => e = .returned (.bool r) ∧ Below w.heap.size w w' := by
 have hu24 := Try.underlying24
 have HB := Aside0.mk (Below.refl w.heap.size w)
 have H : ((formeref06_Valid.f k a0_4).bind fun t224 => (if t224 = true then ((formeref10_ID.f a0_0).bind fun t225 => (if t225 = true then (if a0_2 < 1 then (some false) else (if a0_2 > 11 then (some false) else (if a0_3 < 0 then (some false) else (if a0_3 > 100 then (some false) else (if a0_1 < 0 then (some false) else (if a0_1 > 1000000 then (some false) else (if a0_4.toList = ([] : List UInt8) then (some true) else (if a0_2 = 2 then (some true) else (some (a0_2 == 11)))))))))) else (some false))) else (some false))) = some r := h
 clear h
 replace H := Option.bind_eq_some_iff.mp H
 obtain ⟨t224, A20, H⟩ := H
 try dsimp only at H
 have A2 := Aside0.mk A20
 clear A20
 by_cases c3 : t224 = true
 ·subst c3
  have H1 : ((formeref10_ID.f a0_0).bind fun t225 => (if t225 = true then (if a0_2 < 1 then (some false) else (if a0_2 > 11 then (some false) else (if a0_3 < 0 then (some false) else (if a0_3 > 100 then (some false) else (if a0_1 < 0 then (some false) else (if a0_1 > 1000000 then (some false) else (if a0_4.toList = ([] : List UInt8) then (some true) else (if a0_2 = 2 then (some true) else (some (a0_2 == 11)))))))))) else (some false))) = some r := by rw [if_pos rfl] at H; exact H
  clear H
  have H := H1
  clear H1
  replace H := Option.bind_eq_some_iff.mp H
  obtain ⟨t225, A40, H⟩ := H
  try dsimp only at H
  have A4 := Aside0.mk A40
  clear A40
  by_cases c5 : t225 = true
  ·subst c5
   have H1 : (if a0_2 < 1 then (some false) else (if a0_2 > 11 then (some false) else (if a0_3 < 0 then (some false) else (if a0_3 > 100 then (some false) else (if a0_1 < 0 then (some false) else (if a0_1 > 1000000 then (some false) else (if a0_4.toList = ([] : List UInt8) then (some true) else (if a0_2 = 2 then (some true) else (some (a0_2 == 11)))))))))) = some r := by rw [if_pos rfl] at H; exact H
   clear H
   have H := H1
   clear H1
   by_cases c6 : a0_2 < 1
   ·rw [if_pos c6] at H
    have c6b0 : decide (a0_2 < 1) = true := decide_eq_true c6
    clear c6
    obtain rfl := Option.some.inj H
    go_enter Try.func35, Try.ntmps35
    go_wp2_with (first | ((with_reducible refine gate_dst (N := 1) rfl ?_); refine box_event ?hg (N := 1) ?hd (cs := #[.int .i64 a0_0, .int .i64 a0_1, .int .i64 a0_2, .int .i64 a0_3, .string a0_4]) (t := 24) ?hr ?_; (case hd => rfl); (case hg => rfl); (case hr => exact z11_); intro gb223 hg w7 hbox hb; have n0_ := Aside0.mk (below_step z1_ hb); have n1_ := Aside0.mk (hbox); have n2_ := Aside0.mk ((by rw [hg]; exact (below_size z1_) : w.heap.size ≤ gb223)); have n3_ := Aside0.mk ((by rw [hg]; exact (below_size z1_) : w.heap.size ≤ gb223)); clear HB; have HB := n0_; have BK223 := n1_; have GW223 := n2_; have GE223 := n3_; clear n0_ n1_ n2_ n3_; clear hb hbox hg; have hcz8_0 : w7.cell? ⟨gb223, 0, none⟩ = some (.int .i64 a0_0) := (blk_cell BK223.out 0).trans rfl; have hcz8_1 : w7.cell? ⟨gb223, 1, none⟩ = some (.int .i64 a0_1) := (blk_cell BK223.out 1).trans rfl; have hcz8_2 : w7.cell? ⟨gb223, 2, none⟩ = some (.int .i64 a0_2) := (blk_cell BK223.out 2).trans rfl; have hcz8_3 : w7.cell? ⟨gb223, 3, none⟩ = some (.int .i64 a0_3) := (blk_cell BK223.out 3).trans rfl; have hcz8_4 : w7.cell? ⟨gb223, 4, none⟩ = some (.string a0_4) := (blk_cell BK223.out 4).trans rfl; have hfz8_0 := blk_frozen BK223.out 0; have hfz8_1 := blk_frozen BK223.out 1; have hfz8_2 := blk_frozen BK223.out 2; have hfz8_3 := blk_frozen BK223.out 3; have hfz8_4 := blk_frozen BK223.out 4) | ((with_reducible refine gate_callee (f := 53) rfl ?_); refine goesL_ (some 6) rfl rfl Try.func53 (by kernel_rfl) rfl #[.string a0_4] rfl z2_ ?_; (with_reducible refine (formeref06_Valid.calls k a0_4 true _ A2.out).mono ?_); rintro e w' ⟨rfl, ⟨nd, rfl⟩⟩; refine ⟨_, rfl, ?_⟩) | (go_at_call 33; (with_reducible refine (formeref10_ID.calls a0_0 true _ A4.out).mono ?_); rintro e w' ⟨rfl, ⟨nd, rfl⟩⟩))
    go_ret
    exact ⟨by first | rfl | (simp [errW_none, errW_some] <;> rfl) | (simp [*, errW_none, errW_some] <;> rfl), by repeat (first | (with_reducible first | exact HB.out | apply below_alloc | apply pw_below_drewN | apply below_drew1 | refine below_set ?_ GE223.out) | exact HB.out)⟩
   ·rw [if_neg c6] at H
    have c6b0 : decide (a0_2 < 1) = false := decide_eq_false c6
    clear c6
    by_cases c9 : a0_2 > 11
    ·rw [if_pos c9] at H
     have c9b0 : decide (11 < a0_2) = true := decide_eq_true c9
     clear c9
     obtain rfl := Option.some.inj H
     go_enter Try.func35, Try.ntmps35
     go_wp2_with (first | ((with_reducible refine gate_dst (N := 1) rfl ?_); refine box_event ?hg (N := 1) ?hd (cs := #[.int .i64 a0_0, .int .i64 a0_1, .int .i64 a0_2, .int .i64 a0_3, .string a0_4]) (t := 24) ?hr ?_; (case hd => rfl); (case hg => rfl); (case hr => exact z11_); intro gb223 hg w10 hbox hb; have n0_ := Aside0.mk (below_step z1_ hb); have n1_ := Aside0.mk (hbox); have n2_ := Aside0.mk ((by rw [hg]; exact (below_size z1_) : w.heap.size ≤ gb223)); have n3_ := Aside0.mk ((by rw [hg]; exact (below_size z1_) : w.heap.size ≤ gb223)); clear HB; have HB := n0_; have BK223 := n1_; have GW223 := n2_; have GE223 := n3_; clear n0_ n1_ n2_ n3_; clear hb hbox hg; have hcz11_0 : w10.cell? ⟨gb223, 0, none⟩ = some (.int .i64 a0_0) := (blk_cell BK223.out 0).trans rfl; have hcz11_1 : w10.cell? ⟨gb223, 1, none⟩ = some (.int .i64 a0_1) := (blk_cell BK223.out 1).trans rfl; have hcz11_2 : w10.cell? ⟨gb223, 2, none⟩ = some (.int .i64 a0_2) := (blk_cell BK223.out 2).trans rfl; have hcz11_3 : w10.cell? ⟨gb223, 3, none⟩ = some (.int .i64 a0_3) := (blk_cell BK223.out 3).trans rfl; have hcz11_4 : w10.cell? ⟨gb223, 4, none⟩ = some (.string a0_4) := (blk_cell BK223.out 4).trans rfl; have hfz11_0 := blk_frozen BK223.out 0; have hfz11_1 := blk_frozen BK223.out 1; have hfz11_2 := blk_frozen BK223.out 2; have hfz11_3 := blk_frozen BK223.out 3; have hfz11_4 := blk_frozen BK223.out 4) | ((with_reducible refine gate_callee (f := 53) rfl ?_); refine goesL_ (some 6) rfl rfl Try.func53 (by kernel_rfl) rfl #[.string a0_4] rfl z2_ ?_; (with_reducible refine (formeref06_Valid.calls k a0_4 true _ A2.out).mono ?_); rintro e w' ⟨rfl, ⟨nd, rfl⟩⟩; refine ⟨_, rfl, ?_⟩) | (go_at_call 33; (with_reducible refine (formeref10_ID.calls a0_0 true _ A4.out).mono ?_); rintro e w' ⟨rfl, ⟨nd, rfl⟩⟩))
     go_ret
     exact ⟨by first | rfl | (simp [errW_none, errW_some] <;> rfl) | (simp [*, errW_none, errW_some] <;> rfl), by repeat (first | (with_reducible first | exact HB.out | apply below_alloc | apply pw_below_drewN | apply below_drew1 | refine below_set ?_ GE223.out) | exact HB.out)⟩
    ·rw [if_neg c9] at H
     have c9b0 : decide (11 < a0_2) = false := decide_eq_false c9
     clear c9
     by_cases c12 : a0_3 < 0
     ·rw [if_pos c12] at H
      have c12b0 : decide (a0_3 < 0) = true := decide_eq_true c12
      clear c12
      obtain rfl := Option.some.inj H
      go_enter Try.func35, Try.ntmps35
      go_wp2_with (first | ((with_reducible refine gate_dst (N := 1) rfl ?_); refine box_event ?hg (N := 1) ?hd (cs := #[.int .i64 a0_0, .int .i64 a0_1, .int .i64 a0_2, .int .i64 a0_3, .string a0_4]) (t := 24) ?hr ?_; (case hd => rfl); (case hg => rfl); (case hr => exact z11_); intro gb223 hg w13 hbox hb; have n0_ := Aside0.mk (below_step z1_ hb); have n1_ := Aside0.mk (hbox); have n2_ := Aside0.mk ((by rw [hg]; exact (below_size z1_) : w.heap.size ≤ gb223)); have n3_ := Aside0.mk ((by rw [hg]; exact (below_size z1_) : w.heap.size ≤ gb223)); clear HB; have HB := n0_; have BK223 := n1_; have GW223 := n2_; have GE223 := n3_; clear n0_ n1_ n2_ n3_; clear hb hbox hg; have hcz14_0 : w13.cell? ⟨gb223, 0, none⟩ = some (.int .i64 a0_0) := (blk_cell BK223.out 0).trans rfl; have hcz14_1 : w13.cell? ⟨gb223, 1, none⟩ = some (.int .i64 a0_1) := (blk_cell BK223.out 1).trans rfl; have hcz14_2 : w13.cell? ⟨gb223, 2, none⟩ = some (.int .i64 a0_2) := (blk_cell BK223.out 2).trans rfl; have hcz14_3 : w13.cell? ⟨gb223, 3, none⟩ = some (.int .i64 a0_3) := (blk_cell BK223.out 3).trans rfl; have hcz14_4 : w13.cell? ⟨gb223, 4, none⟩ = some (.string a0_4) := (blk_cell BK223.out 4).trans rfl; have hfz14_0 := blk_frozen BK223.out 0; have hfz14_1 := blk_frozen BK223.out 1; have hfz14_2 := blk_frozen BK223.out 2; have hfz14_3 := blk_frozen BK223.out 3; have hfz14_4 := blk_frozen BK223.out 4) | ((with_reducible refine gate_callee (f := 53) rfl ?_); refine goesL_ (some 6) rfl rfl Try.func53 (by kernel_rfl) rfl #[.string a0_4] rfl z2_ ?_; (with_reducible refine (formeref06_Valid.calls k a0_4 true _ A2.out).mono ?_); rintro e w' ⟨rfl, ⟨nd, rfl⟩⟩; refine ⟨_, rfl, ?_⟩) | (go_at_call 33; (with_reducible refine (formeref10_ID.calls a0_0 true _ A4.out).mono ?_); rintro e w' ⟨rfl, ⟨nd, rfl⟩⟩))
      go_ret
      exact ⟨by first | rfl | (simp [errW_none, errW_some] <;> rfl) | (simp [*, errW_none, errW_some] <;> rfl), by repeat (first | (with_reducible first | exact HB.out | apply below_alloc | apply pw_below_drewN | apply below_drew1 | refine below_set ?_ GE223.out) | exact HB.out)⟩
     ·rw [if_neg c12] at H
      have c12b0 : decide (a0_3 < 0) = false := decide_eq_false c12
      clear c12
      by_cases c15 : a0_3 > 100
      ·rw [if_pos c15] at H
       have c15b0 : decide (100 < a0_3) = true := decide_eq_true c15
       clear c15
       obtain rfl := Option.some.inj H
       go_enter Try.func35, Try.ntmps35
       go_wp2_with (first | ((with_reducible refine gate_dst (N := 1) rfl ?_); refine box_event ?hg (N := 1) ?hd (cs := #[.int .i64 a0_0, .int .i64 a0_1, .int .i64 a0_2, .int .i64 a0_3, .string a0_4]) (t := 24) ?hr ?_; (case hd => rfl); (case hg => rfl); (case hr => exact z11_); intro gb223 hg w16 hbox hb; have n0_ := Aside0.mk (below_step z1_ hb); have n1_ := Aside0.mk (hbox); have n2_ := Aside0.mk ((by rw [hg]; exact (below_size z1_) : w.heap.size ≤ gb223)); have n3_ := Aside0.mk ((by rw [hg]; exact (below_size z1_) : w.heap.size ≤ gb223)); clear HB; have HB := n0_; have BK223 := n1_; have GW223 := n2_; have GE223 := n3_; clear n0_ n1_ n2_ n3_; clear hb hbox hg; have hcz17_0 : w16.cell? ⟨gb223, 0, none⟩ = some (.int .i64 a0_0) := (blk_cell BK223.out 0).trans rfl; have hcz17_1 : w16.cell? ⟨gb223, 1, none⟩ = some (.int .i64 a0_1) := (blk_cell BK223.out 1).trans rfl; have hcz17_2 : w16.cell? ⟨gb223, 2, none⟩ = some (.int .i64 a0_2) := (blk_cell BK223.out 2).trans rfl; have hcz17_3 : w16.cell? ⟨gb223, 3, none⟩ = some (.int .i64 a0_3) := (blk_cell BK223.out 3).trans rfl; have hcz17_4 : w16.cell? ⟨gb223, 4, none⟩ = some (.string a0_4) := (blk_cell BK223.out 4).trans rfl; have hfz17_0 := blk_frozen BK223.out 0; have hfz17_1 := blk_frozen BK223.out 1; have hfz17_2 := blk_frozen BK223.out 2; have hfz17_3 := blk_frozen BK223.out 3; have hfz17_4 := blk_frozen BK223.out 4) | ((with_reducible refine gate_callee (f := 53) rfl ?_); refine goesL_ (some 6) rfl rfl Try.func53 (by kernel_rfl) rfl #[.string a0_4] rfl z2_ ?_; (with_reducible refine (formeref06_Valid.calls k a0_4 true _ A2.out).mono ?_); rintro e w' ⟨rfl, ⟨nd, rfl⟩⟩; refine ⟨_, rfl, ?_⟩) | (go_at_call 33; (with_reducible refine (formeref10_ID.calls a0_0 true _ A4.out).mono ?_); rintro e w' ⟨rfl, ⟨nd, rfl⟩⟩))
       go_ret
       exact ⟨by first | rfl | (simp [errW_none, errW_some] <;> rfl) | (simp [*, errW_none, errW_some] <;> rfl), by repeat (first | (with_reducible first | exact HB.out | apply below_alloc | apply pw_below_drewN | apply below_drew1 | refine below_set ?_ GE223.out) | exact HB.out)⟩
      ·rw [if_neg c15] at H
       have c15b0 : decide (100 < a0_3) = false := decide_eq_false c15
       clear c15
       by_cases c18 : a0_1 < 0
       ·rw [if_pos c18] at H
        have c18b0 : decide (a0_1 < 0) = true := decide_eq_true c18
        clear c18
        obtain rfl := Option.some.inj H
        go_enter Try.func35, Try.ntmps35
        go_wp2_with (first | ((with_reducible refine gate_dst (N := 1) rfl ?_); refine box_event ?hg (N := 1) ?hd (cs := #[.int .i64 a0_0, .int .i64 a0_1, .int .i64 a0_2, .int .i64 a0_3, .string a0_4]) (t := 24) ?hr ?_; (case hd => rfl); (case hg => rfl); (case hr => exact z11_); intro gb223 hg w19 hbox hb; have n0_ := Aside0.mk (below_step z1_ hb); have n1_ := Aside0.mk (hbox); have n2_ := Aside0.mk ((by rw [hg]; exact (below_size z1_) : w.heap.size ≤ gb223)); have n3_ := Aside0.mk ((by rw [hg]; exact (below_size z1_) : w.heap.size ≤ gb223)); clear HB; have HB := n0_; have BK223 := n1_; have GW223 := n2_; have GE223 := n3_; clear n0_ n1_ n2_ n3_; clear hb hbox hg; have hcz20_0 : w19.cell? ⟨gb223, 0, none⟩ = some (.int .i64 a0_0) := (blk_cell BK223.out 0).trans rfl; have hcz20_1 : w19.cell? ⟨gb223, 1, none⟩ = some (.int .i64 a0_1) := (blk_cell BK223.out 1).trans rfl; have hcz20_2 : w19.cell? ⟨gb223, 2, none⟩ = some (.int .i64 a0_2) := (blk_cell BK223.out 2).trans rfl; have hcz20_3 : w19.cell? ⟨gb223, 3, none⟩ = some (.int .i64 a0_3) := (blk_cell BK223.out 3).trans rfl; have hcz20_4 : w19.cell? ⟨gb223, 4, none⟩ = some (.string a0_4) := (blk_cell BK223.out 4).trans rfl; have hfz20_0 := blk_frozen BK223.out 0; have hfz20_1 := blk_frozen BK223.out 1; have hfz20_2 := blk_frozen BK223.out 2; have hfz20_3 := blk_frozen BK223.out 3; have hfz20_4 := blk_frozen BK223.out 4) | ((with_reducible refine gate_callee (f := 53) rfl ?_); refine goesL_ (some 6) rfl rfl Try.func53 (by kernel_rfl) rfl #[.string a0_4] rfl z2_ ?_; (with_reducible refine (formeref06_Valid.calls k a0_4 true _ A2.out).mono ?_); rintro e w' ⟨rfl, ⟨nd, rfl⟩⟩; refine ⟨_, rfl, ?_⟩) | (go_at_call 33; (with_reducible refine (formeref10_ID.calls a0_0 true _ A4.out).mono ?_); rintro e w' ⟨rfl, ⟨nd, rfl⟩⟩))
        go_ret
        exact ⟨by first | rfl | (simp [errW_none, errW_some] <;> rfl) | (simp [*, errW_none, errW_some] <;> rfl), by repeat (first | (with_reducible first | exact HB.out | apply below_alloc | apply pw_below_drewN | apply below_drew1 | refine below_set ?_ GE223.out) | exact HB.out)⟩
       ·rw [if_neg c18] at H
        have c18b0 : decide (a0_1 < 0) = false := decide_eq_false c18
        clear c18
        by_cases c21 : a0_1 > 1000000
        ·rw [if_pos c21] at H
         have c21b0 : decide (1000000 < a0_1) = true := decide_eq_true c21
         clear c21
         obtain rfl := Option.some.inj H
         go_enter Try.func35, Try.ntmps35
         go_wp2_with (first | ((with_reducible refine gate_dst (N := 1) rfl ?_); refine box_event ?hg (N := 1) ?hd (cs := #[.int .i64 a0_0, .int .i64 a0_1, .int .i64 a0_2, .int .i64 a0_3, .string a0_4]) (t := 24) ?hr ?_; (case hd => rfl); (case hg => rfl); (case hr => exact z11_); intro gb223 hg w22 hbox hb; have n0_ := Aside0.mk (below_step z1_ hb); have n1_ := Aside0.mk (hbox); have n2_ := Aside0.mk ((by rw [hg]; exact (below_size z1_) : w.heap.size ≤ gb223)); have n3_ := Aside0.mk ((by rw [hg]; exact (below_size z1_) : w.heap.size ≤ gb223)); clear HB; have HB := n0_; have BK223 := n1_; have GW223 := n2_; have GE223 := n3_; clear n0_ n1_ n2_ n3_; clear hb hbox hg; have hcz23_0 : w22.cell? ⟨gb223, 0, none⟩ = some (.int .i64 a0_0) := (blk_cell BK223.out 0).trans rfl; have hcz23_1 : w22.cell? ⟨gb223, 1, none⟩ = some (.int .i64 a0_1) := (blk_cell BK223.out 1).trans rfl; have hcz23_2 : w22.cell? ⟨gb223, 2, none⟩ = some (.int .i64 a0_2) := (blk_cell BK223.out 2).trans rfl; have hcz23_3 : w22.cell? ⟨gb223, 3, none⟩ = some (.int .i64 a0_3) := (blk_cell BK223.out 3).trans rfl; have hcz23_4 : w22.cell? ⟨gb223, 4, none⟩ = some (.string a0_4) := (blk_cell BK223.out 4).trans rfl; have hfz23_0 := blk_frozen BK223.out 0; have hfz23_1 := blk_frozen BK223.out 1; have hfz23_2 := blk_frozen BK223.out 2; have hfz23_3 := blk_frozen BK223.out 3; have hfz23_4 := blk_frozen BK223.out 4) | ((with_reducible refine gate_callee (f := 53) rfl ?_); refine goesL_ (some 6) rfl rfl Try.func53 (by kernel_rfl) rfl #[.string a0_4] rfl z2_ ?_; (with_reducible refine (formeref06_Valid.calls k a0_4 true _ A2.out).mono ?_); rintro e w' ⟨rfl, ⟨nd, rfl⟩⟩; refine ⟨_, rfl, ?_⟩) | (go_at_call 33; (with_reducible refine (formeref10_ID.calls a0_0 true _ A4.out).mono ?_); rintro e w' ⟨rfl, ⟨nd, rfl⟩⟩))
         go_ret
         exact ⟨by first | rfl | (simp [errW_none, errW_some] <;> rfl) | (simp [*, errW_none, errW_some] <;> rfl), by repeat (first | (with_reducible first | exact HB.out | apply below_alloc | apply pw_below_drewN | apply below_drew1 | refine below_set ?_ GE223.out) | exact HB.out)⟩
        ·rw [if_neg c21] at H
         have c21b0 : decide (1000000 < a0_1) = false := decide_eq_false c21
         clear c21
         by_cases c24 : a0_4.toList = ([] : List UInt8)
         ·rw [if_pos c24] at H
          have c24b0 : (a0_4.toList == ([] : List UInt8)) = true := beq_iff_eq.mpr c24
          have c24b1 : (a0_4.toList != ([] : List UInt8)) = false := bne_eq_false_iff_eq.mpr c24
          clear c24
          obtain rfl := Option.some.inj H
          go_enter Try.func35, Try.ntmps35
          go_wp2_with (first | ((with_reducible refine gate_dst (N := 1) rfl ?_); refine box_event ?hg (N := 1) ?hd (cs := #[.int .i64 a0_0, .int .i64 a0_1, .int .i64 a0_2, .int .i64 a0_3, .string a0_4]) (t := 24) ?hr ?_; (case hd => rfl); (case hg => rfl); (case hr => exact z11_); intro gb223 hg w25 hbox hb; have n0_ := Aside0.mk (below_step z1_ hb); have n1_ := Aside0.mk (hbox); have n2_ := Aside0.mk ((by rw [hg]; exact (below_size z1_) : w.heap.size ≤ gb223)); have n3_ := Aside0.mk ((by rw [hg]; exact (below_size z1_) : w.heap.size ≤ gb223)); clear HB; have HB := n0_; have BK223 := n1_; have GW223 := n2_; have GE223 := n3_; clear n0_ n1_ n2_ n3_; clear hb hbox hg; have hcz26_0 : w25.cell? ⟨gb223, 0, none⟩ = some (.int .i64 a0_0) := (blk_cell BK223.out 0).trans rfl; have hcz26_1 : w25.cell? ⟨gb223, 1, none⟩ = some (.int .i64 a0_1) := (blk_cell BK223.out 1).trans rfl; have hcz26_2 : w25.cell? ⟨gb223, 2, none⟩ = some (.int .i64 a0_2) := (blk_cell BK223.out 2).trans rfl; have hcz26_3 : w25.cell? ⟨gb223, 3, none⟩ = some (.int .i64 a0_3) := (blk_cell BK223.out 3).trans rfl; have hcz26_4 : w25.cell? ⟨gb223, 4, none⟩ = some (.string a0_4) := (blk_cell BK223.out 4).trans rfl; have hfz26_0 := blk_frozen BK223.out 0; have hfz26_1 := blk_frozen BK223.out 1; have hfz26_2 := blk_frozen BK223.out 2; have hfz26_3 := blk_frozen BK223.out 3; have hfz26_4 := blk_frozen BK223.out 4) | ((with_reducible refine gate_callee (f := 53) rfl ?_); refine goesL_ (some 6) rfl rfl Try.func53 (by kernel_rfl) rfl #[.string a0_4] rfl z2_ ?_; (with_reducible refine (formeref06_Valid.calls k a0_4 true _ A2.out).mono ?_); rintro e w' ⟨rfl, ⟨nd, rfl⟩⟩; refine ⟨_, rfl, ?_⟩) | (go_at_call 33; (with_reducible refine (formeref10_ID.calls a0_0 true _ A4.out).mono ?_); rintro e w' ⟨rfl, ⟨nd, rfl⟩⟩))
          go_ret
          exact ⟨by first | rfl | (simp [errW_none, errW_some] <;> rfl) | (simp [*, errW_none, errW_some] <;> rfl), by repeat (first | (with_reducible first | exact HB.out | apply below_alloc | apply pw_below_drewN | apply below_drew1 | refine below_set ?_ GE223.out) | exact HB.out)⟩
         ·rw [if_neg c24] at H
          have c24b0 : (a0_4.toList == ([] : List UInt8)) = false := beq_eq_false_iff_ne.mpr c24
          have c24b1 : (a0_4.toList != ([] : List UInt8)) = true := bne_iff_ne.mpr c24
          by_cases c27 : a0_2 = 2
          ·rw [if_pos c27] at H
           have c27b0 : (a0_2 == 2) = true := beq_iff_eq.mpr c27
           have c27b1 : (a0_2 != 2) = false := bne_eq_false_iff_eq.mpr c27
           clear c27
           obtain rfl := Option.some.inj H
           go_enter Try.func35, Try.ntmps35
           go_wp2_with (first | ((with_reducible refine gate_dst (N := 1) rfl ?_); refine box_event ?hg (N := 1) ?hd (cs := #[.int .i64 a0_0, .int .i64 a0_1, .int .i64 a0_2, .int .i64 a0_3, .string a0_4]) (t := 24) ?hr ?_; (case hd => rfl); (case hg => rfl); (case hr => exact z11_); intro gb223 hg w28 hbox hb; have n0_ := Aside0.mk (below_step z1_ hb); have n1_ := Aside0.mk (hbox); have n2_ := Aside0.mk ((by rw [hg]; exact (below_size z1_) : w.heap.size ≤ gb223)); have n3_ := Aside0.mk ((by rw [hg]; exact (below_size z1_) : w.heap.size ≤ gb223)); clear HB; have HB := n0_; have BK223 := n1_; have GW223 := n2_; have GE223 := n3_; clear n0_ n1_ n2_ n3_; clear hb hbox hg; have hcz29_0 : w28.cell? ⟨gb223, 0, none⟩ = some (.int .i64 a0_0) := (blk_cell BK223.out 0).trans rfl; have hcz29_1 : w28.cell? ⟨gb223, 1, none⟩ = some (.int .i64 a0_1) := (blk_cell BK223.out 1).trans rfl; have hcz29_2 : w28.cell? ⟨gb223, 2, none⟩ = some (.int .i64 a0_2) := (blk_cell BK223.out 2).trans rfl; have hcz29_3 : w28.cell? ⟨gb223, 3, none⟩ = some (.int .i64 a0_3) := (blk_cell BK223.out 3).trans rfl; have hcz29_4 : w28.cell? ⟨gb223, 4, none⟩ = some (.string a0_4) := (blk_cell BK223.out 4).trans rfl; have hfz29_0 := blk_frozen BK223.out 0; have hfz29_1 := blk_frozen BK223.out 1; have hfz29_2 := blk_frozen BK223.out 2; have hfz29_3 := blk_frozen BK223.out 3; have hfz29_4 := blk_frozen BK223.out 4) | ((with_reducible refine gate_callee (f := 53) rfl ?_); refine goesL_ (some 6) rfl rfl Try.func53 (by kernel_rfl) rfl #[.string a0_4] rfl z2_ ?_; (with_reducible refine (formeref06_Valid.calls k a0_4 true _ A2.out).mono ?_); rintro e w' ⟨rfl, ⟨nd, rfl⟩⟩; refine ⟨_, rfl, ?_⟩) | (go_at_call 33; (with_reducible refine (formeref10_ID.calls a0_0 true _ A4.out).mono ?_); rintro e w' ⟨rfl, ⟨nd, rfl⟩⟩))
           go_ret
           exact ⟨by first | rfl | (simp [errW_none, errW_some] <;> rfl) | (simp [*, errW_none, errW_some] <;> rfl), by repeat (first | (with_reducible first | exact HB.out | apply below_alloc | apply pw_below_drewN | apply below_drew1 | refine below_set ?_ GE223.out) | exact HB.out)⟩
          ·rw [if_neg c27] at H
           have c27b0 : (a0_2 == 2) = false := beq_eq_false_iff_ne.mpr c27
           have c27b1 : (a0_2 != 2) = true := bne_iff_ne.mpr c27
           obtain rfl := Option.some.inj H
           go_enter Try.func35, Try.ntmps35
           go_wp2_with (first | ((with_reducible refine gate_dst (N := 1) rfl ?_); refine box_event ?hg (N := 1) ?hd (cs := #[.int .i64 a0_0, .int .i64 a0_1, .int .i64 a0_2, .int .i64 a0_3, .string a0_4]) (t := 24) ?hr ?_; (case hd => rfl); (case hg => rfl); (case hr => exact z11_); intro gb223 hg w30 hbox hb; have n0_ := Aside0.mk (below_step z1_ hb); have n1_ := Aside0.mk (hbox); have n2_ := Aside0.mk ((by rw [hg]; exact (below_size z1_) : w.heap.size ≤ gb223)); have n3_ := Aside0.mk ((by rw [hg]; exact (below_size z1_) : w.heap.size ≤ gb223)); clear HB; have HB := n0_; have BK223 := n1_; have GW223 := n2_; have GE223 := n3_; clear n0_ n1_ n2_ n3_; clear hb hbox hg; have hcz31_0 : w30.cell? ⟨gb223, 0, none⟩ = some (.int .i64 a0_0) := (blk_cell BK223.out 0).trans rfl; have hcz31_1 : w30.cell? ⟨gb223, 1, none⟩ = some (.int .i64 a0_1) := (blk_cell BK223.out 1).trans rfl; have hcz31_2 : w30.cell? ⟨gb223, 2, none⟩ = some (.int .i64 a0_2) := (blk_cell BK223.out 2).trans rfl; have hcz31_3 : w30.cell? ⟨gb223, 3, none⟩ = some (.int .i64 a0_3) := (blk_cell BK223.out 3).trans rfl; have hcz31_4 : w30.cell? ⟨gb223, 4, none⟩ = some (.string a0_4) := (blk_cell BK223.out 4).trans rfl; have hfz31_0 := blk_frozen BK223.out 0; have hfz31_1 := blk_frozen BK223.out 1; have hfz31_2 := blk_frozen BK223.out 2; have hfz31_3 := blk_frozen BK223.out 3; have hfz31_4 := blk_frozen BK223.out 4) | ((with_reducible refine gate_callee (f := 53) rfl ?_); refine goesL_ (some 6) rfl rfl Try.func53 (by kernel_rfl) rfl #[.string a0_4] rfl z2_ ?_; (with_reducible refine (formeref06_Valid.calls k a0_4 true _ A2.out).mono ?_); rintro e w' ⟨rfl, ⟨nd, rfl⟩⟩; refine ⟨_, rfl, ?_⟩) | (go_at_call 33; (with_reducible refine (formeref10_ID.calls a0_0 true _ A4.out).mono ?_); rintro e w' ⟨rfl, ⟨nd, rfl⟩⟩))
           go_ret
           exact ⟨by first | rfl | (simp [errW_none, errW_some] <;> rfl) | (simp [*, errW_none, errW_some] <;> rfl), by repeat (first | (with_reducible first | exact HB.out | apply below_alloc | apply pw_below_drewN | apply below_drew1 | refine below_set ?_ GE223.out) | exact HB.out)⟩
  ·replace c5 := Bool.eq_false_iff.mpr c5
   subst c5
   have H1 : (some false) = some r := by rw [if_neg (show ¬ (false = true) by decide)] at H; exact H
   clear H
   have H := H1
   clear H1
   obtain rfl := Option.some.inj H
   go_enter Try.func35, Try.ntmps35
   go_wp2_with (first | ((with_reducible refine gate_dst (N := 1) rfl ?_); refine box_event ?hg (N := 1) ?hd (cs := #[.int .i64 a0_0, .int .i64 a0_1, .int .i64 a0_2, .int .i64 a0_3, .string a0_4]) (t := 24) ?hr ?_; (case hd => rfl); (case hg => rfl); (case hr => exact z11_); intro gb223 hg w32 hbox hb; have n0_ := Aside0.mk (below_step z1_ hb); have n1_ := Aside0.mk (hbox); have n2_ := Aside0.mk ((by rw [hg]; exact (below_size z1_) : w.heap.size ≤ gb223)); have n3_ := Aside0.mk ((by rw [hg]; exact (below_size z1_) : w.heap.size ≤ gb223)); clear HB; have HB := n0_; have BK223 := n1_; have GW223 := n2_; have GE223 := n3_; clear n0_ n1_ n2_ n3_; clear hb hbox hg; have hcz33_0 : w32.cell? ⟨gb223, 0, none⟩ = some (.int .i64 a0_0) := (blk_cell BK223.out 0).trans rfl; have hcz33_1 : w32.cell? ⟨gb223, 1, none⟩ = some (.int .i64 a0_1) := (blk_cell BK223.out 1).trans rfl; have hcz33_2 : w32.cell? ⟨gb223, 2, none⟩ = some (.int .i64 a0_2) := (blk_cell BK223.out 2).trans rfl; have hcz33_3 : w32.cell? ⟨gb223, 3, none⟩ = some (.int .i64 a0_3) := (blk_cell BK223.out 3).trans rfl; have hcz33_4 : w32.cell? ⟨gb223, 4, none⟩ = some (.string a0_4) := (blk_cell BK223.out 4).trans rfl; have hfz33_0 := blk_frozen BK223.out 0; have hfz33_1 := blk_frozen BK223.out 1; have hfz33_2 := blk_frozen BK223.out 2; have hfz33_3 := blk_frozen BK223.out 3; have hfz33_4 := blk_frozen BK223.out 4) | ((with_reducible refine gate_callee (f := 53) rfl ?_); refine goesL_ (some 6) rfl rfl Try.func53 (by kernel_rfl) rfl #[.string a0_4] rfl z2_ ?_; (with_reducible refine (formeref06_Valid.calls k a0_4 true _ A2.out).mono ?_); rintro e w' ⟨rfl, ⟨nd, rfl⟩⟩; refine ⟨_, rfl, ?_⟩) | (go_at_call 33; (with_reducible refine (formeref10_ID.calls a0_0 false _ A4.out).mono ?_); rintro e w' ⟨rfl, ⟨nd, rfl⟩⟩))
   go_ret
   exact ⟨by first | rfl | (simp [errW_none, errW_some] <;> rfl) | (simp [*, errW_none, errW_some] <;> rfl), by repeat (first | (with_reducible first | exact HB.out | apply below_alloc | apply pw_below_drewN | apply below_drew1 | refine below_set ?_ GE223.out) | exact HB.out)⟩
 ·replace c3 := Bool.eq_false_iff.mpr c3
  subst c3
  have H1 : (some false) = some r := by rw [if_neg (show ¬ (false = true) by decide)] at H; exact H
  clear H
  have H := H1
  clear H1
  obtain rfl := Option.some.inj H
  go_enter Try.func35, Try.ntmps35
  go_wp2_with (first | ((with_reducible refine gate_dst (N := 1) rfl ?_); refine box_event ?hg (N := 1) ?hd (cs := #[.int .i64 a0_0, .int .i64 a0_1, .int .i64 a0_2, .int .i64 a0_3, .string a0_4]) (t := 24) ?hr ?_; (case hd => rfl); (case hg => rfl); (case hr => exact z11_); intro gb223 hg w34 hbox hb; have n0_ := Aside0.mk (below_step z1_ hb); have n1_ := Aside0.mk (hbox); have n2_ := Aside0.mk ((by rw [hg]; exact (below_size z1_) : w.heap.size ≤ gb223)); have n3_ := Aside0.mk ((by rw [hg]; exact (below_size z1_) : w.heap.size ≤ gb223)); clear HB; have HB := n0_; have BK223 := n1_; have GW223 := n2_; have GE223 := n3_; clear n0_ n1_ n2_ n3_; clear hb hbox hg; have hcz35_0 : w34.cell? ⟨gb223, 0, none⟩ = some (.int .i64 a0_0) := (blk_cell BK223.out 0).trans rfl; have hcz35_1 : w34.cell? ⟨gb223, 1, none⟩ = some (.int .i64 a0_1) := (blk_cell BK223.out 1).trans rfl; have hcz35_2 : w34.cell? ⟨gb223, 2, none⟩ = some (.int .i64 a0_2) := (blk_cell BK223.out 2).trans rfl; have hcz35_3 : w34.cell? ⟨gb223, 3, none⟩ = some (.int .i64 a0_3) := (blk_cell BK223.out 3).trans rfl; have hcz35_4 : w34.cell? ⟨gb223, 4, none⟩ = some (.string a0_4) := (blk_cell BK223.out 4).trans rfl; have hfz35_0 := blk_frozen BK223.out 0; have hfz35_1 := blk_frozen BK223.out 1; have hfz35_2 := blk_frozen BK223.out 2; have hfz35_3 := blk_frozen BK223.out 3; have hfz35_4 := blk_frozen BK223.out 4) | ((with_reducible refine gate_callee (f := 53) rfl ?_); refine goesL_ (some 6) rfl rfl Try.func53 (by kernel_rfl) rfl #[.string a0_4] rfl z2_ ?_; (with_reducible refine (formeref06_Valid.calls k a0_4 false _ A2.out).mono ?_); rintro e w' ⟨rfl, ⟨nd, rfl⟩⟩; refine ⟨_, rfl, ?_⟩))
  go_ret
  exact ⟨by first | rfl | (simp [errW_none, errW_some] <;> rfl) | (simp [*, errW_none, errW_some] <;> rfl), by repeat (first | (with_reducible first | exact HB.out | apply below_alloc | apply pw_below_drewN | apply below_drew1 | refine below_set ?_ GE223.out) | exact HB.out)⟩
end Go.Proofs.Ytpafhhgoldenoaa.P
end
section
namespace Go.Proofs.Ytpafhhgoldenoaa.P
open Go.RowKit Go.Proofs.YtpafhhgoldenoaaW.PrintWords Go.Proofs.YtpafhhgoldenoaaW.PrintLast Go.Proofs.YtpafhhgoldenoaaW.PrintMore
attribute [local go_sem] max2_int min2_int max_two min_two max_three min_three max_four min_four
set_option linter.unusedVariables false
set_option linter.unusedSimpArgs false
def formeref10_Stands.f (a0 : Int) (a1 : Int) : Option (Bool) := if a0 = 8 then (some (a1 == 7)) else (if a0 = 9 then (some (a1 == 8)) else (if a1 = 1 then (some true) else (if a1 = 3 then (some true) else (if a1 = 4 then (some true) else (if a1 = 5 then (some true) else (if a1 = 6 then (some true) else (some (a1 == 9))))))))
set_option maxHeartbeats 8000000 in
set_option maxRecDepth 100000 in
theorem formeref10_Stands.calls (a0 : Int) (a1 : Int) (r : Bool) (w : World) (h : formeref10_Stands.f a0 a1 = some r) :
  Calls Try.prog 46 #[.int .i64 a0, .int .i64 a1] w fun e w' => e = .returned (.bool r) ∧ Drawn0 w w' := by
 have H : (if a0 = 8 then (some (a1 == 7)) else (if a0 = 9 then (some (a1 == 8)) else (if a1 = 1 then (some true) else (if a1 = 3 then (some true) else (if a1 = 4 then (some true) else (if a1 = 5 then (some true) else (if a1 = 6 then (some true) else (some (a1 == 9))))))))) = some r := h
 clear h
 by_cases c3 : a0 = 8
 ·rw [if_pos c3] at H
  have c3b0 : (a0 == 8) = true := beq_iff_eq.mpr c3
  have c3b1 : (a0 != 8) = false := bne_eq_false_iff_eq.mpr c3
  clear c3
  obtain rfl := Option.some.inj H
  go_enter Try.func46, Try.ntmps46
  go_wp2
  go_ret
  exact ⟨by first | rfl | (simp; done) | (simp [*]; done), by repeat (first | exact Drawn0.refl _ | apply Drawn0.step)⟩
 ·rw [if_neg c3] at H
  have c3b0 : (a0 == 8) = false := beq_eq_false_iff_ne.mpr c3
  have c3b1 : (a0 != 8) = true := bne_iff_ne.mpr c3
  by_cases c4 : a0 = 9
  ·rw [if_pos c4] at H
   have c4b0 : (a0 == 9) = true := beq_iff_eq.mpr c4
   have c4b1 : (a0 != 9) = false := bne_eq_false_iff_eq.mpr c4
   clear c4
   obtain rfl := Option.some.inj H
   go_enter Try.func46, Try.ntmps46
   go_wp2
   go_ret
   exact ⟨by first | rfl | (simp; done) | (simp [*]; done), by repeat (first | exact Drawn0.refl _ | apply Drawn0.step)⟩
  ·rw [if_neg c4] at H
   have c4b0 : (a0 == 9) = false := beq_eq_false_iff_ne.mpr c4
   have c4b1 : (a0 != 9) = true := bne_iff_ne.mpr c4
   by_cases c5 : a1 = 1
   ·rw [if_pos c5] at H
    have c5b0 : (a1 == 1) = true := beq_iff_eq.mpr c5
    have c5b1 : (a1 != 1) = false := bne_eq_false_iff_eq.mpr c5
    clear c5
    obtain rfl := Option.some.inj H
    go_enter Try.func46, Try.ntmps46
    go_wp2
    go_ret
    exact ⟨by first | rfl | (simp; done) | (simp [*]; done), by repeat (first | exact Drawn0.refl _ | apply Drawn0.step)⟩
   ·rw [if_neg c5] at H
    have c5b0 : (a1 == 1) = false := beq_eq_false_iff_ne.mpr c5
    have c5b1 : (a1 != 1) = true := bne_iff_ne.mpr c5
    by_cases c6 : a1 = 3
    ·rw [if_pos c6] at H
     have c6b0 : (a1 == 3) = true := beq_iff_eq.mpr c6
     have c6b1 : (a1 != 3) = false := bne_eq_false_iff_eq.mpr c6
     clear c6
     obtain rfl := Option.some.inj H
     go_enter Try.func46, Try.ntmps46
     go_wp2
     go_ret
     exact ⟨by first | rfl | (simp; done) | (simp [*]; done), by repeat (first | exact Drawn0.refl _ | apply Drawn0.step)⟩
    ·rw [if_neg c6] at H
     have c6b0 : (a1 == 3) = false := beq_eq_false_iff_ne.mpr c6
     have c6b1 : (a1 != 3) = true := bne_iff_ne.mpr c6
     by_cases c7 : a1 = 4
     ·rw [if_pos c7] at H
      have c7b0 : (a1 == 4) = true := beq_iff_eq.mpr c7
      have c7b1 : (a1 != 4) = false := bne_eq_false_iff_eq.mpr c7
      clear c7
      obtain rfl := Option.some.inj H
      go_enter Try.func46, Try.ntmps46
      go_wp2
      go_ret
      exact ⟨by first | rfl | (simp; done) | (simp [*]; done), by repeat (first | exact Drawn0.refl _ | apply Drawn0.step)⟩
     ·rw [if_neg c7] at H
      have c7b0 : (a1 == 4) = false := beq_eq_false_iff_ne.mpr c7
      have c7b1 : (a1 != 4) = true := bne_iff_ne.mpr c7
      by_cases c8 : a1 = 5
      ·rw [if_pos c8] at H
       have c8b0 : (a1 == 5) = true := beq_iff_eq.mpr c8
       have c8b1 : (a1 != 5) = false := bne_eq_false_iff_eq.mpr c8
       clear c8
       obtain rfl := Option.some.inj H
       go_enter Try.func46, Try.ntmps46
       go_wp2
       go_ret
       exact ⟨by first | rfl | (simp; done) | (simp [*]; done), by repeat (first | exact Drawn0.refl _ | apply Drawn0.step)⟩
      ·rw [if_neg c8] at H
       have c8b0 : (a1 == 5) = false := beq_eq_false_iff_ne.mpr c8
       have c8b1 : (a1 != 5) = true := bne_iff_ne.mpr c8
       by_cases c9 : a1 = 6
       ·rw [if_pos c9] at H
        have c9b0 : (a1 == 6) = true := beq_iff_eq.mpr c9
        have c9b1 : (a1 != 6) = false := bne_eq_false_iff_eq.mpr c9
        clear c9
        obtain rfl := Option.some.inj H
        go_enter Try.func46, Try.ntmps46
        go_wp2
        go_ret
        exact ⟨by first | rfl | (simp; done) | (simp [*]; done), by repeat (first | exact Drawn0.refl _ | apply Drawn0.step)⟩
       ·rw [if_neg c9] at H
        have c9b0 : (a1 == 6) = false := beq_eq_false_iff_ne.mpr c9
        have c9b1 : (a1 != 6) = true := bne_iff_ne.mpr c9
        obtain rfl := Option.some.inj H
        go_enter Try.func46, Try.ntmps46
        go_wp2
        go_ret
        exact ⟨by first | rfl | (simp; done) | (simp [*]; done), by repeat (first | exact Drawn0.refl _ | apply Drawn0.step)⟩
end Go.Proofs.Ytpafhhgoldenoaa.P
end
section
namespace Go.Proofs.Ytpafhhgoldenoaa.P
open Go.RowKit Go.Proofs.YtpafhhgoldenoaaW.PrintWords Go.Proofs.YtpafhhgoldenoaaW.PrintLast Go.Proofs.YtpafhhgoldenoaaW.PrintMore
attribute [local go_sem] max2_int min2_int max_two min_two max_three min_three max_four min_four
set_option linter.unusedVariables false
set_option linter.unusedSimpArgs false
def formeref10_depths.l0 : Nat → List (S24) → List Int → Int → Option (List Int × Bool)
 | 0, _, _, _ => none
 | k + 1, x0, x4, x5 => if x5 < (x0.length : Int) then (if x5 = 0 then (if x4.length < 17592186044416 then (if 0 < (x0.length : Int) then (if ((rd_T24 x0 0).f1) = 0 then (if ((rd_T24 x0 0).f2) = 1 then (formeref10_depths.l0 k x0 (x4 ++ [1]) (wrap64 (x5 + 1))) else (some (([] : List Int), false))) else (some (([] : List Int), false))) else (none)) else (none)) else (if 0 ≤ x5 then (if x5 ≤ (x0.length : Int) then ((formeref10_Index.f k (x0.take (x5 : Int).toNat) ((rd_T24 x0 x5).f1)).bind fun t236 => (if t236 < 0 then (some (([] : List Int), false)) else (if 0 ≤ t236 then (if t236 < (x0.length : Int) then ((formeref10_Stands.f ((rd_T24 x0 x5).f2) ((rd_T24 x0 t236).f2)).bind fun t239 => (if t239 = true then (if t236 < (x4.length : Int) then (if x4.length < 17592186044416 then (formeref10_depths.l0 k x0 (x4 ++ [wrap64 ((rd x4 t236) + 1)]) (wrap64 (x5 + 1))) else (none)) else (none)) else (some (([] : List Int), false)))) else (none)) else (none)))) else (none)) else (none))) else (some (x4, true))
def formeref10_depths.f (k : Nat) (l0 : List (S24)) : Option (List Int × Bool) := formeref10_depths.l0 k l0 ([] : List Int) 0
set_option maxHeartbeats 8000000 in
set_option maxRecDepth 100000 in
theorem formeref10_depths.calls (k : Nat) (A0 : Option Addr) (c0 : Nat) (l0 : List (S24)) (r1 : List Int) (r2 : Bool) (w : World) (hr0 : Kd.C k24 w A0 l0.length l0) (hc0 : l0.length ≤ c0) (h : formeref10_depths.f k l0 = some (r1, r2)) :
  Calls Try.prog 36 #[.slice A0 l0.length c0] w fun e w' => ∃ v0_ : Value, e = .returned (.tuple #[v0_, .bool r2]) ∧ Kd.R (Kd.int .i64) 3 w' w.heap.size (fun _ => True) v0_ r1 ∧ Below w.heap.size w w' := by
 have HR0 := Aside0.mk hr0
 have HC0 := Aside0.mk hc0
 clear hr0 hc0
 have HB := Aside0.mk (Below.refl w.heap.size w)
 have H : (formeref10_depths.l0 k l0 ([] : List Int) 0) = some (r1, r2) := h
 clear h
 have H' := Aside0.mk H
 clear H
 go_enter Try.func36, Try.ntmps36
 go_wp2
 repeat (go_quiet (fail); try go_wp2)
 go_loopg [4, 5] k (fun kq v4 v5 w' => ∃ (x4_1 : List Int) (x5_1 : Int), v5 = .int .i64 x5_1 ∧ Aside0 (formeref10_depths.l0 kq l0 x4_1 x5_1 = some (r1, r2)) ∧ Aside0 (kq ≤ k) ∧ Aside0 (Kd.R (Kd.int .i64) 3 w' w.heap.size (fun _ => True) v4 x4_1) ∧ Aside0 (Below w.heap.size w w'))
 case atStart => exact ⟨(([] : List Int)), (0), z8_, H', ⟨Nat.le_refl _⟩, ⟨by first | exact Kd.R_nil _ _ _ _ _ | exact Kd.N_nil _ _ _ _ _ | exact Kd.V_nil _ _ _ _ _ | exact Kd.Q_nil _ _ _ _ _ | exact Kd.S_nil _ _ _ _ _⟩, ⟨by repeat (first | (with_reducible first | exact HB.out | apply below_alloc | apply pw_below_drewN | apply below_drew1) | exact HB.out)⟩⟩
 case round =>
  clear H'
  obtain ⟨x4_1, x5_1, rfl, HA, HK1, HO_4, HB⟩ := hrel
  cases gk with
  | zero => exact absurd HA.out (by simp [formeref10_depths.l0])
  | succ k1 =>
   have H := HA.out
   clear HA
   simp only [formeref10_depths.l0] at H
   by_cases c2 : x5_1 < (l0.length : Int)
   ·rw [if_pos c2] at H
    have c2b0 : decide (x5_1 < (l0.length : Int)) = true := decide_eq_true c2
    clear c2
    by_cases c3 : x5_1 = 0
    ·rw [if_pos c3] at H
     have c3b0 : (x5_1 == 0) = true := beq_iff_eq.mpr c3
     have c3b1 : (x5_1 != 0) = false := bne_eq_false_iff_eq.mpr c3
     clear c3
     by_cases c4 : x4_1.length < 17592186044416
     rotate_left
     ·rw [if_neg c4] at H; exact absurd H (by simp)
     rw [if_pos c4] at H
     have LMc4 := Aside0.mk c4
     clear c4
     obtain ⟨y226, hy226⟩ : ∃ y_ : List Int, y_ = (x4_1 ++ [1]) := ⟨_, rfl⟩
     replace H : (if 0 < (l0.length : Int) then (if ((rd_T24 l0 0).f1) = 0 then (if ((rd_T24 l0 0).f2) = 1 then (formeref10_depths.l0 k1 l0 y226 (wrap64 (x5_1 + 1))) else (some (([] : List Int), false))) else (some (([] : List Int), false))) else (none)) = some (r1, r2) := by first | (rw [hy226]; with_reducible exact H) | (have H2_ := (Option.bind_some _ _).symm.trans H; rw [hy226]; with_reducible exact H2_) | (have H2_ := (Option.bind_some _ _).symm.trans H; with_reducible exact H2_) | with_reducible exact H | (rw [hy226]; exact H) | exact H
     have Ny226 := Aside0.mk hy226
     clear hy226
     by_cases c5 : 0 < (l0.length : Int)
     rotate_left
     ·rw [if_neg c5] at H; exact absurd H (by simp)
     rw [if_pos c5] at H
     have c5b0 : decide (0 < (l0.length : Int)) = true := decide_eq_true c5
     have c5b1 : decide (0 < l0.length) = true := decide_eq_true (by omega)
     clear c5
     by_cases c6 : ((rd_T24 l0 0).f1) = 0
     ·rw [if_pos c6] at H
      have c6b0 : (((rd_T24 l0 0).f1) == 0) = true := beq_iff_eq.mpr c6
      have c6b1 : (((rd_T24 l0 0).f1) != 0) = false := bne_eq_false_iff_eq.mpr c6
      clear c6
      by_cases c7 : ((rd_T24 l0 0).f2) = 1
      ·rw [if_pos c7] at H
       have c7b0 : (((rd_T24 l0 0).f2) == 1) = true := beq_iff_eq.mpr c7
       have c7b1 : (((rd_T24 l0 0).f2) != 1) = false := bne_eq_false_iff_eq.mpr c7
       clear c7
       have H' := Aside0.mk H
       clear H
       go_wp2_with (first | ((with_reducible refine gate_builtin (b := .append) (xs := #[.tmp 15, .tmp 16]) rfl ?_); at_builtin; refine Kd.R_append (Kd.int .i64) (w0 := w) w.heap.size rfl (.tmp 15) (.tmp 16) 30 3 (.int .i64 0) 8 rfl Try.underlying30 info3 rfl (by decide) (by omega) u4 x4_1 1 [.int .i64 1] (fun _ => True) (fun _ => False) rfl rfl ?aP (fun _ hk => hk.elim) ?aF ?aO ?aB ?aS ?aL ?_; (case aP => exact rfl); (case aB => exact z1_); (case aF => exact (fun _ _ => trivial)); (case aO => exact z20_); (case aS => exact (below_size z1_)); (case aL => have := LMc4.out; omega); intro v227 w8 ho hb hg hat; rw [← Ny226.out] at ho; have n0_ := Aside0.mk (hb); have n1_ := Aside0.mk (ho); clear HB; clear HO_4; have HB := n0_; have HO228 := n1_; clear n0_ n1_; clear ho hb hg hat; have p229 : 0 ≤ (0 : Int) := (by omega); have q229 : 0 < (l0.length : Int) := of_decide_eq_true z3_; obtain ⟨ad229, e229, hx229_0, hx229_1, hx229_2, hx229_3, hx229_4⟩ := at_T24 HR0.out 0 p229 q229; cases e229; have qi229 : (0 < l0.length) = True := eq_true (by omega); (try simp only [show ((0 : Int)).toNat = 0 from rfl, show 0 * 5 = 0 from rfl, Addr.add_zero'] at hx229_0 hx229_1 hx229_2 hx229_3 hx229_4); replace hx229_0 := hbc_ HB.out hx229_0; replace hx229_1 := hbc_ HB.out hx229_1; replace hx229_2 := hbc_ HB.out hx229_2; replace hx229_3 := hbc_ HB.out hx229_3; replace hx229_4 := hbc_ HB.out hx229_4; replace p229 := eq_true p229; replace q229 := eq_true q229; have p230 : 0 ≤ (0 : Int) := (by omega); have q230 : 0 < (l0.length : Int) := of_decide_eq_true z3_; obtain ⟨ad230, e230, hx230_0, hx230_1, hx230_2, hx230_3, hx230_4⟩ := at_T24 HR0.out 0 p230 q230; obtain rfl : ad229 = ad230 := (by injection e230); have qi230 : (0 < l0.length) = True := eq_true (by omega); (try simp only [show ((0 : Int)).toNat = 0 from rfl, show 0 * 5 = 0 from rfl, Addr.add_zero'] at hx230_0 hx230_1 hx230_2 hx230_3 hx230_4); replace hx230_0 := hbc_ HB.out hx230_0; replace hx230_1 := hbc_ HB.out hx230_1; replace hx230_2 := hbc_ HB.out hx230_2; replace hx230_3 := hbc_ HB.out hx230_3; replace hx230_4 := hbc_ HB.out hx230_4; replace p230 := eq_true p230; replace q230 := eq_true q230))
       repeat (go_quiet (first | ((with_reducible refine gate_builtin (b := .append) (xs := #[.tmp 15, .tmp 16]) rfl ?_); at_builtin; refine Kd.R_append (Kd.int .i64) (w0 := w) w.heap.size rfl (.tmp 15) (.tmp 16) 30 3 (.int .i64 0) 8 rfl Try.underlying30 info3 rfl (by decide) (by omega) u4 x4_1 1 [.int .i64 1] (fun _ => True) (fun _ => False) rfl rfl ?aP (fun _ hk => hk.elim) ?aF ?aO ?aB ?aS ?aL ?_; (case aP => exact rfl); (case aB => exact z1_); (case aF => exact (fun _ _ => trivial)); (case aO => exact z20_); (case aS => exact (below_size z1_)); (case aL => have := LMc4.out; omega); intro v227 w8 ho hb hg hat; rw [← Ny226.out] at ho; have n0_ := Aside0.mk (hb); have n1_ := Aside0.mk (ho); clear HB; clear HO_4; have HB := n0_; have HO228 := n1_; clear n0_ n1_; clear ho hb hg hat; have p229 : 0 ≤ (0 : Int) := (by omega); have q229 : 0 < (l0.length : Int) := of_decide_eq_true z3_; obtain ⟨ad229, e229, hx229_0, hx229_1, hx229_2, hx229_3, hx229_4⟩ := at_T24 HR0.out 0 p229 q229; cases e229; have qi229 : (0 < l0.length) = True := eq_true (by omega); (try simp only [show ((0 : Int)).toNat = 0 from rfl, show 0 * 5 = 0 from rfl, Addr.add_zero'] at hx229_0 hx229_1 hx229_2 hx229_3 hx229_4); replace hx229_0 := hbc_ HB.out hx229_0; replace hx229_1 := hbc_ HB.out hx229_1; replace hx229_2 := hbc_ HB.out hx229_2; replace hx229_3 := hbc_ HB.out hx229_3; replace hx229_4 := hbc_ HB.out hx229_4; replace p229 := eq_true p229; replace q229 := eq_true q229; have p230 : 0 ≤ (0 : Int) := (by omega); have q230 : 0 < (l0.length : Int) := of_decide_eq_true z3_; obtain ⟨ad230, e230, hx230_0, hx230_1, hx230_2, hx230_3, hx230_4⟩ := at_T24 HR0.out 0 p230 q230; obtain rfl : ad229 = ad230 := (by injection e230); have qi230 : (0 < l0.length) = True := eq_true (by omega); (try simp only [show ((0 : Int)).toNat = 0 from rfl, show 0 * 5 = 0 from rfl, Addr.add_zero'] at hx230_0 hx230_1 hx230_2 hx230_3 hx230_4); replace hx230_0 := hbc_ HB.out hx230_0; replace hx230_1 := hbc_ HB.out hx230_1; replace hx230_2 := hbc_ HB.out hx230_2; replace hx230_3 := hbc_ HB.out hx230_3; replace hx230_4 := hbc_ HB.out hx230_4; replace p230 := eq_true p230; replace q230 := eq_true q230)); try go_wp2_with (first | ((with_reducible refine gate_builtin (b := .append) (xs := #[.tmp 15, .tmp 16]) rfl ?_); at_builtin; refine Kd.R_append (Kd.int .i64) (w0 := w) w.heap.size rfl (.tmp 15) (.tmp 16) 30 3 (.int .i64 0) 8 rfl Try.underlying30 info3 rfl (by decide) (by omega) u4 x4_1 1 [.int .i64 1] (fun _ => True) (fun _ => False) rfl rfl ?aP (fun _ hk => hk.elim) ?aF ?aO ?aB ?aS ?aL ?_; (case aP => exact rfl); (case aB => exact z1_); (case aF => exact (fun _ _ => trivial)); (case aO => exact z20_); (case aS => exact (below_size z1_)); (case aL => have := LMc4.out; omega); intro v227 w8 ho hb hg hat; rw [← Ny226.out] at ho; have n0_ := Aside0.mk (hb); have n1_ := Aside0.mk (ho); clear HB; clear HO_4; have HB := n0_; have HO228 := n1_; clear n0_ n1_; clear ho hb hg hat; have p229 : 0 ≤ (0 : Int) := (by omega); have q229 : 0 < (l0.length : Int) := of_decide_eq_true z3_; obtain ⟨ad229, e229, hx229_0, hx229_1, hx229_2, hx229_3, hx229_4⟩ := at_T24 HR0.out 0 p229 q229; cases e229; have qi229 : (0 < l0.length) = True := eq_true (by omega); (try simp only [show ((0 : Int)).toNat = 0 from rfl, show 0 * 5 = 0 from rfl, Addr.add_zero'] at hx229_0 hx229_1 hx229_2 hx229_3 hx229_4); replace hx229_0 := hbc_ HB.out hx229_0; replace hx229_1 := hbc_ HB.out hx229_1; replace hx229_2 := hbc_ HB.out hx229_2; replace hx229_3 := hbc_ HB.out hx229_3; replace hx229_4 := hbc_ HB.out hx229_4; replace p229 := eq_true p229; replace q229 := eq_true q229; have p230 : 0 ≤ (0 : Int) := (by omega); have q230 : 0 < (l0.length : Int) := of_decide_eq_true z3_; obtain ⟨ad230, e230, hx230_0, hx230_1, hx230_2, hx230_3, hx230_4⟩ := at_T24 HR0.out 0 p230 q230; obtain rfl : ad229 = ad230 := (by injection e230); have qi230 : (0 < l0.length) = True := eq_true (by omega); (try simp only [show ((0 : Int)).toNat = 0 from rfl, show 0 * 5 = 0 from rfl, Addr.add_zero'] at hx230_0 hx230_1 hx230_2 hx230_3 hx230_4); replace hx230_0 := hbc_ HB.out hx230_0; replace hx230_1 := hbc_ HB.out hx230_1; replace hx230_2 := hbc_ HB.out hx230_2; replace hx230_3 := hbc_ HB.out hx230_3; replace hx230_4 := hbc_ HB.out hx230_4; replace p230 := eq_true p230; replace q230 := eq_true q230)))
       go_roundg k1
       case measure => have := HK1.out; omega
       case rel => exact ⟨(y226), (wrap64 (x5_1 + 1)), z8_, H', ⟨by have := HK1.out; omega⟩, ⟨by (with_reducible repeat (first | apply Kd.R_alloc | apply Kd.R_drewN | apply Kd.R_drew)); exact HO228.out⟩, ⟨by repeat (first | (with_reducible first | exact HB.out | apply below_alloc | apply pw_below_drewN | apply below_drew1) | exact HB.out)⟩⟩
      ·rw [if_neg c7] at H
       have c7b0 : (((rd_T24 l0 0).f2) == 1) = false := beq_eq_false_iff_ne.mpr c7
       have c7b1 : (((rd_T24 l0 0).f2) != 1) = true := bne_iff_ne.mpr c7
       simp only [Option.some.injEq, Prod.mk.injEq] at H
       obtain ⟨rfl, rfl⟩ := H
       go_wp2_with (first | ((with_reducible refine gate_builtin (b := .append) (xs := #[.tmp 15, .tmp 16]) rfl ?_); at_builtin; refine Kd.R_append (Kd.int .i64) (w0 := w) w.heap.size rfl (.tmp 15) (.tmp 16) 30 3 (.int .i64 0) 8 rfl Try.underlying30 info3 rfl (by decide) (by omega) u4 x4_1 1 [.int .i64 1] (fun _ => True) (fun _ => False) rfl rfl ?aP (fun _ hk => hk.elim) ?aF ?aO ?aB ?aS ?aL ?_; (case aP => exact rfl); (case aB => exact z1_); (case aF => exact (fun _ _ => trivial)); (case aO => exact z20_); (case aS => exact (below_size z1_)); (case aL => have := LMc4.out; omega); intro v227 w9 ho hb hg hat; rw [← Ny226.out] at ho; have n0_ := Aside0.mk (hb); have n1_ := Aside0.mk (ho); clear HB; clear HO_4; have HB := n0_; have HO228 := n1_; clear n0_ n1_; clear ho hb hg hat; have p229 : 0 ≤ (0 : Int) := (by omega); have q229 : 0 < (l0.length : Int) := of_decide_eq_true z3_; obtain ⟨ad229, e229, hx229_0, hx229_1, hx229_2, hx229_3, hx229_4⟩ := at_T24 HR0.out 0 p229 q229; cases e229; have qi229 : (0 < l0.length) = True := eq_true (by omega); (try simp only [show ((0 : Int)).toNat = 0 from rfl, show 0 * 5 = 0 from rfl, Addr.add_zero'] at hx229_0 hx229_1 hx229_2 hx229_3 hx229_4); replace hx229_0 := hbc_ HB.out hx229_0; replace hx229_1 := hbc_ HB.out hx229_1; replace hx229_2 := hbc_ HB.out hx229_2; replace hx229_3 := hbc_ HB.out hx229_3; replace hx229_4 := hbc_ HB.out hx229_4; replace p229 := eq_true p229; replace q229 := eq_true q229; have p230 : 0 ≤ (0 : Int) := (by omega); have q230 : 0 < (l0.length : Int) := of_decide_eq_true z3_; obtain ⟨ad230, e230, hx230_0, hx230_1, hx230_2, hx230_3, hx230_4⟩ := at_T24 HR0.out 0 p230 q230; obtain rfl : ad229 = ad230 := (by injection e230); have qi230 : (0 < l0.length) = True := eq_true (by omega); (try simp only [show ((0 : Int)).toNat = 0 from rfl, show 0 * 5 = 0 from rfl, Addr.add_zero'] at hx230_0 hx230_1 hx230_2 hx230_3 hx230_4); replace hx230_0 := hbc_ HB.out hx230_0; replace hx230_1 := hbc_ HB.out hx230_1; replace hx230_2 := hbc_ HB.out hx230_2; replace hx230_3 := hbc_ HB.out hx230_3; replace hx230_4 := hbc_ HB.out hx230_4; replace p230 := eq_true p230; replace q230 := eq_true q230))
       repeat (go_quiet (first | ((with_reducible refine gate_builtin (b := .append) (xs := #[.tmp 15, .tmp 16]) rfl ?_); at_builtin; refine Kd.R_append (Kd.int .i64) (w0 := w) w.heap.size rfl (.tmp 15) (.tmp 16) 30 3 (.int .i64 0) 8 rfl Try.underlying30 info3 rfl (by decide) (by omega) u4 x4_1 1 [.int .i64 1] (fun _ => True) (fun _ => False) rfl rfl ?aP (fun _ hk => hk.elim) ?aF ?aO ?aB ?aS ?aL ?_; (case aP => exact rfl); (case aB => exact z1_); (case aF => exact (fun _ _ => trivial)); (case aO => exact z20_); (case aS => exact (below_size z1_)); (case aL => have := LMc4.out; omega); intro v227 w9 ho hb hg hat; rw [← Ny226.out] at ho; have n0_ := Aside0.mk (hb); have n1_ := Aside0.mk (ho); clear HB; clear HO_4; have HB := n0_; have HO228 := n1_; clear n0_ n1_; clear ho hb hg hat; have p229 : 0 ≤ (0 : Int) := (by omega); have q229 : 0 < (l0.length : Int) := of_decide_eq_true z3_; obtain ⟨ad229, e229, hx229_0, hx229_1, hx229_2, hx229_3, hx229_4⟩ := at_T24 HR0.out 0 p229 q229; cases e229; have qi229 : (0 < l0.length) = True := eq_true (by omega); (try simp only [show ((0 : Int)).toNat = 0 from rfl, show 0 * 5 = 0 from rfl, Addr.add_zero'] at hx229_0 hx229_1 hx229_2 hx229_3 hx229_4); replace hx229_0 := hbc_ HB.out hx229_0; replace hx229_1 := hbc_ HB.out hx229_1; replace hx229_2 := hbc_ HB.out hx229_2; replace hx229_3 := hbc_ HB.out hx229_3; replace hx229_4 := hbc_ HB.out hx229_4; replace p229 := eq_true p229; replace q229 := eq_true q229; have p230 : 0 ≤ (0 : Int) := (by omega); have q230 : 0 < (l0.length : Int) := of_decide_eq_true z3_; obtain ⟨ad230, e230, hx230_0, hx230_1, hx230_2, hx230_3, hx230_4⟩ := at_T24 HR0.out 0 p230 q230; obtain rfl : ad229 = ad230 := (by injection e230); have qi230 : (0 < l0.length) = True := eq_true (by omega); (try simp only [show ((0 : Int)).toNat = 0 from rfl, show 0 * 5 = 0 from rfl, Addr.add_zero'] at hx230_0 hx230_1 hx230_2 hx230_3 hx230_4); replace hx230_0 := hbc_ HB.out hx230_0; replace hx230_1 := hbc_ HB.out hx230_1; replace hx230_2 := hbc_ HB.out hx230_2; replace hx230_3 := hbc_ HB.out hx230_3; replace hx230_4 := hbc_ HB.out hx230_4; replace p230 := eq_true p230; replace q230 := eq_true q230)); try go_wp2_with (first | ((with_reducible refine gate_builtin (b := .append) (xs := #[.tmp 15, .tmp 16]) rfl ?_); at_builtin; refine Kd.R_append (Kd.int .i64) (w0 := w) w.heap.size rfl (.tmp 15) (.tmp 16) 30 3 (.int .i64 0) 8 rfl Try.underlying30 info3 rfl (by decide) (by omega) u4 x4_1 1 [.int .i64 1] (fun _ => True) (fun _ => False) rfl rfl ?aP (fun _ hk => hk.elim) ?aF ?aO ?aB ?aS ?aL ?_; (case aP => exact rfl); (case aB => exact z1_); (case aF => exact (fun _ _ => trivial)); (case aO => exact z20_); (case aS => exact (below_size z1_)); (case aL => have := LMc4.out; omega); intro v227 w9 ho hb hg hat; rw [← Ny226.out] at ho; have n0_ := Aside0.mk (hb); have n1_ := Aside0.mk (ho); clear HB; clear HO_4; have HB := n0_; have HO228 := n1_; clear n0_ n1_; clear ho hb hg hat; have p229 : 0 ≤ (0 : Int) := (by omega); have q229 : 0 < (l0.length : Int) := of_decide_eq_true z3_; obtain ⟨ad229, e229, hx229_0, hx229_1, hx229_2, hx229_3, hx229_4⟩ := at_T24 HR0.out 0 p229 q229; cases e229; have qi229 : (0 < l0.length) = True := eq_true (by omega); (try simp only [show ((0 : Int)).toNat = 0 from rfl, show 0 * 5 = 0 from rfl, Addr.add_zero'] at hx229_0 hx229_1 hx229_2 hx229_3 hx229_4); replace hx229_0 := hbc_ HB.out hx229_0; replace hx229_1 := hbc_ HB.out hx229_1; replace hx229_2 := hbc_ HB.out hx229_2; replace hx229_3 := hbc_ HB.out hx229_3; replace hx229_4 := hbc_ HB.out hx229_4; replace p229 := eq_true p229; replace q229 := eq_true q229; have p230 : 0 ≤ (0 : Int) := (by omega); have q230 : 0 < (l0.length : Int) := of_decide_eq_true z3_; obtain ⟨ad230, e230, hx230_0, hx230_1, hx230_2, hx230_3, hx230_4⟩ := at_T24 HR0.out 0 p230 q230; obtain rfl : ad229 = ad230 := (by injection e230); have qi230 : (0 < l0.length) = True := eq_true (by omega); (try simp only [show ((0 : Int)).toNat = 0 from rfl, show 0 * 5 = 0 from rfl, Addr.add_zero'] at hx230_0 hx230_1 hx230_2 hx230_3 hx230_4); replace hx230_0 := hbc_ HB.out hx230_0; replace hx230_1 := hbc_ HB.out hx230_1; replace hx230_2 := hbc_ HB.out hx230_2; replace hx230_3 := hbc_ HB.out hx230_3; replace hx230_4 := hbc_ HB.out hx230_4; replace p230 := eq_true p230; replace q230 := eq_true q230)))
       go_ret2
       exact ⟨_, by first | rfl | (simp [errW_none, errW_some] <;> rfl) | (simp [*, errW_none, errW_some] <;> rfl), by first | exact Kd.R_nil _ _ _ _ _ | exact Kd.N_nil _ _ _ _ _ | exact Kd.V_nil _ _ _ _ _ | exact Kd.Q_nil _ _ _ _ _ | exact Kd.S_nil _ _ _ _ _, by repeat (first | (with_reducible first | exact HB.out | apply below_alloc | apply pw_below_drewN | apply below_drew1) | exact HB.out)⟩
     ·rw [if_neg c6] at H
      have c6b0 : (((rd_T24 l0 0).f1) == 0) = false := beq_eq_false_iff_ne.mpr c6
      have c6b1 : (((rd_T24 l0 0).f1) != 0) = true := bne_iff_ne.mpr c6
      simp only [Option.some.injEq, Prod.mk.injEq] at H
      obtain ⟨rfl, rfl⟩ := H
      go_wp2_with (first | ((with_reducible refine gate_builtin (b := .append) (xs := #[.tmp 15, .tmp 16]) rfl ?_); at_builtin; refine Kd.R_append (Kd.int .i64) (w0 := w) w.heap.size rfl (.tmp 15) (.tmp 16) 30 3 (.int .i64 0) 8 rfl Try.underlying30 info3 rfl (by decide) (by omega) u4 x4_1 1 [.int .i64 1] (fun _ => True) (fun _ => False) rfl rfl ?aP (fun _ hk => hk.elim) ?aF ?aO ?aB ?aS ?aL ?_; (case aP => exact rfl); (case aB => exact z1_); (case aF => exact (fun _ _ => trivial)); (case aO => exact z20_); (case aS => exact (below_size z1_)); (case aL => have := LMc4.out; omega); intro v227 w10 ho hb hg hat; rw [← Ny226.out] at ho; have n0_ := Aside0.mk (hb); have n1_ := Aside0.mk (ho); clear HB; clear HO_4; have HB := n0_; have HO228 := n1_; clear n0_ n1_; clear ho hb hg hat; have p229 : 0 ≤ (0 : Int) := (by omega); have q229 : 0 < (l0.length : Int) := of_decide_eq_true z3_; obtain ⟨ad229, e229, hx229_0, hx229_1, hx229_2, hx229_3, hx229_4⟩ := at_T24 HR0.out 0 p229 q229; cases e229; have qi229 : (0 < l0.length) = True := eq_true (by omega); (try simp only [show ((0 : Int)).toNat = 0 from rfl, show 0 * 5 = 0 from rfl, Addr.add_zero'] at hx229_0 hx229_1 hx229_2 hx229_3 hx229_4); replace hx229_0 := hbc_ HB.out hx229_0; replace hx229_1 := hbc_ HB.out hx229_1; replace hx229_2 := hbc_ HB.out hx229_2; replace hx229_3 := hbc_ HB.out hx229_3; replace hx229_4 := hbc_ HB.out hx229_4; replace p229 := eq_true p229; replace q229 := eq_true q229))
      repeat (go_quiet (first | ((with_reducible refine gate_builtin (b := .append) (xs := #[.tmp 15, .tmp 16]) rfl ?_); at_builtin; refine Kd.R_append (Kd.int .i64) (w0 := w) w.heap.size rfl (.tmp 15) (.tmp 16) 30 3 (.int .i64 0) 8 rfl Try.underlying30 info3 rfl (by decide) (by omega) u4 x4_1 1 [.int .i64 1] (fun _ => True) (fun _ => False) rfl rfl ?aP (fun _ hk => hk.elim) ?aF ?aO ?aB ?aS ?aL ?_; (case aP => exact rfl); (case aB => exact z1_); (case aF => exact (fun _ _ => trivial)); (case aO => exact z20_); (case aS => exact (below_size z1_)); (case aL => have := LMc4.out; omega); intro v227 w10 ho hb hg hat; rw [← Ny226.out] at ho; have n0_ := Aside0.mk (hb); have n1_ := Aside0.mk (ho); clear HB; clear HO_4; have HB := n0_; have HO228 := n1_; clear n0_ n1_; clear ho hb hg hat; have p229 : 0 ≤ (0 : Int) := (by omega); have q229 : 0 < (l0.length : Int) := of_decide_eq_true z3_; obtain ⟨ad229, e229, hx229_0, hx229_1, hx229_2, hx229_3, hx229_4⟩ := at_T24 HR0.out 0 p229 q229; cases e229; have qi229 : (0 < l0.length) = True := eq_true (by omega); (try simp only [show ((0 : Int)).toNat = 0 from rfl, show 0 * 5 = 0 from rfl, Addr.add_zero'] at hx229_0 hx229_1 hx229_2 hx229_3 hx229_4); replace hx229_0 := hbc_ HB.out hx229_0; replace hx229_1 := hbc_ HB.out hx229_1; replace hx229_2 := hbc_ HB.out hx229_2; replace hx229_3 := hbc_ HB.out hx229_3; replace hx229_4 := hbc_ HB.out hx229_4; replace p229 := eq_true p229; replace q229 := eq_true q229)); try go_wp2_with (first | ((with_reducible refine gate_builtin (b := .append) (xs := #[.tmp 15, .tmp 16]) rfl ?_); at_builtin; refine Kd.R_append (Kd.int .i64) (w0 := w) w.heap.size rfl (.tmp 15) (.tmp 16) 30 3 (.int .i64 0) 8 rfl Try.underlying30 info3 rfl (by decide) (by omega) u4 x4_1 1 [.int .i64 1] (fun _ => True) (fun _ => False) rfl rfl ?aP (fun _ hk => hk.elim) ?aF ?aO ?aB ?aS ?aL ?_; (case aP => exact rfl); (case aB => exact z1_); (case aF => exact (fun _ _ => trivial)); (case aO => exact z20_); (case aS => exact (below_size z1_)); (case aL => have := LMc4.out; omega); intro v227 w10 ho hb hg hat; rw [← Ny226.out] at ho; have n0_ := Aside0.mk (hb); have n1_ := Aside0.mk (ho); clear HB; clear HO_4; have HB := n0_; have HO228 := n1_; clear n0_ n1_; clear ho hb hg hat; have p229 : 0 ≤ (0 : Int) := (by omega); have q229 : 0 < (l0.length : Int) := of_decide_eq_true z3_; obtain ⟨ad229, e229, hx229_0, hx229_1, hx229_2, hx229_3, hx229_4⟩ := at_T24 HR0.out 0 p229 q229; cases e229; have qi229 : (0 < l0.length) = True := eq_true (by omega); (try simp only [show ((0 : Int)).toNat = 0 from rfl, show 0 * 5 = 0 from rfl, Addr.add_zero'] at hx229_0 hx229_1 hx229_2 hx229_3 hx229_4); replace hx229_0 := hbc_ HB.out hx229_0; replace hx229_1 := hbc_ HB.out hx229_1; replace hx229_2 := hbc_ HB.out hx229_2; replace hx229_3 := hbc_ HB.out hx229_3; replace hx229_4 := hbc_ HB.out hx229_4; replace p229 := eq_true p229; replace q229 := eq_true q229)))
      go_ret2
      exact ⟨_, by first | rfl | (simp [errW_none, errW_some] <;> rfl) | (simp [*, errW_none, errW_some] <;> rfl), by first | exact Kd.R_nil _ _ _ _ _ | exact Kd.N_nil _ _ _ _ _ | exact Kd.V_nil _ _ _ _ _ | exact Kd.Q_nil _ _ _ _ _ | exact Kd.S_nil _ _ _ _ _, by repeat (first | (with_reducible first | exact HB.out | apply below_alloc | apply pw_below_drewN | apply below_drew1) | exact HB.out)⟩
    ·rw [if_neg c3] at H
     have c3b0 : (x5_1 == 0) = false := beq_eq_false_iff_ne.mpr c3
     have c3b1 : (x5_1 != 0) = true := bne_iff_ne.mpr c3
     by_cases c11 : 0 ≤ x5_1
     rotate_left
     ·rw [if_neg c11] at H; exact absurd H (by simp)
     rw [if_pos c11] at H
     have c11b0 := eq_true c11
     have c11b1 : decide (0 ≤ x5_1) = true := decide_eq_true c11
     clear c11
     by_cases c12 : x5_1 ≤ (l0.length : Int)
     rotate_left
     ·rw [if_neg c12] at H; exact absurd H (by simp)
     rw [if_pos c12] at H
     have c12b0 := eq_true c12
     have c12b1 : decide (x5_1 ≤ (l0.length : Int)) = true := decide_eq_true c12
     clear c12
     obtain ⟨y231, hy231⟩ : ∃ y_ : List (S24), y_ = (l0.take (x5_1 : Int).toNat) := ⟨_, rfl⟩
     replace H : ((formeref10_Index.f k1 y231 ((rd_T24 l0 x5_1).f1)).bind fun t236 => (if t236 < 0 then (some (([] : List Int), false)) else (if 0 ≤ t236 then (if t236 < (l0.length : Int) then ((formeref10_Stands.f ((rd_T24 l0 x5_1).f2) ((rd_T24 l0 t236).f2)).bind fun t239 => (if t239 = true then (if t236 < (x4_1.length : Int) then (if x4_1.length < 17592186044416 then (formeref10_depths.l0 k1 l0 (x4_1 ++ [wrap64 ((rd x4_1 t236) + 1)]) (wrap64 (x5_1 + 1))) else (none)) else (none)) else (some (([] : List Int), false)))) else (none)) else (none)))) = some (r1, r2) := by first | (rw [hy231]; with_reducible exact H) | (have H2_ := (Option.bind_some _ _).symm.trans H; rw [hy231]; with_reducible exact H2_) | (have H2_ := (Option.bind_some _ _).symm.trans H; with_reducible exact H2_) | with_reducible exact H | (rw [hy231]; exact H) | exact H
     have Ny231 := Aside0.mk hy231
     clear hy231
     replace H := Option.bind_eq_some_iff.mp H
     obtain ⟨t236, A130, H⟩ := H
     try dsimp only at H
     have A13 := Aside0.mk A130
     clear A130
     by_cases c14 : t236 < 0
     ·rw [if_pos c14] at H
      have c14b0 : decide (t236 < 0) = true := decide_eq_true c14
      clear c14
      simp only [Option.some.injEq, Prod.mk.injEq] at H
      obtain ⟨rfl, rfl⟩ := H
      have q15 : (x5_1 : Int) ≤ ((l0.length : Int) : Int) := of_decide_eq_true z3_
      obtain ⟨i015, hi015, _, hsz15, _⟩ := info_parts info24
      have hroom15 : l0.length ≤ c0 := HC0.out
      have hC15 : Kd.C k24 _ A0 l0.length l0 := HR0.out
      have hcut15 := cut_to (P := Try.prog) 22 24 .i64 Try.underlying22 hi015 A0 l0.length c0 x5_1 (of_decide_eq_true z3_) q15 hroom15
      have hr15 := Kd.C_take (m := (x5_1 : Int).toNat) hC15 (by omega)
      have hy15 : y231.length = (x5_1 : Int).toNat := (by rw [Ny231.out, List.length_take]; omega)
      rw [← Ny231.out] at hr15
      rw [← hy15] at hcut15
      have HR234 := Aside0.mk hr15
      have HC234 := Aside0.mk (show y231.length ≤ c0 from by omega)
      clear hr15 hC15 hroom15 hi015 hsz15
      have KY15 := Aside0.mk hy15
      clear hy15
      replace q15 := eq_true q15
      have p235 : 0 ≤ (x5_1 : Int) := of_decide_eq_true z3_
      have q235 : x5_1 < (l0.length : Int) := of_decide_eq_true z3_
      obtain ⟨ad235, e235, hx235_0, hx235_1, hx235_2, hx235_3, hx235_4⟩ := at_T24 HR0.out x5_1 p235 q235
      cases e235
      replace hx235_0 := hbc_ HB.out hx235_0
      replace hx235_1 := hbc_ HB.out hx235_1
      replace hx235_2 := hbc_ HB.out hx235_2
      replace hx235_3 := hbc_ HB.out hx235_3
      replace hx235_4 := hbc_ HB.out hx235_4
      replace p235 := eq_true p235
      replace q235 := eq_true q235
      go_wp2_with (first | (go_at_call 34; (with_reducible refine (formeref10_Index.calls k1 _ _ y231 ((rd_T24 l0 x5_1).f1) t236 _ ?side1 ?side2 A13.out).mono ?_); (case side1 => exact z19_); (case side2 => exact HC234.out); rintro e w' ⟨rfl, ⟨nd, rfl⟩⟩; (try first | exact ⟨rfl, _, World.drewN_drewN _ _ _⟩ | exact ⟨rfl, _, Eq.trans (World.drewN_drewN _ _ _) (congrArg (World.drewN _) (Nat.add_assoc _ _ _))⟩)))
      repeat (go_quiet (first | (go_at_call 34; (with_reducible refine (formeref10_Index.calls k1 _ _ y231 ((rd_T24 l0 x5_1).f1) t236 _ ?side1 ?side2 A13.out).mono ?_); (case side1 => exact z19_); (case side2 => exact HC234.out); rintro e w' ⟨rfl, ⟨nd, rfl⟩⟩; (try first | exact ⟨rfl, _, World.drewN_drewN _ _ _⟩ | exact ⟨rfl, _, Eq.trans (World.drewN_drewN _ _ _) (congrArg (World.drewN _) (Nat.add_assoc _ _ _))⟩))); try go_wp2_with (first | (go_at_call 34; (with_reducible refine (formeref10_Index.calls k1 _ _ y231 ((rd_T24 l0 x5_1).f1) t236 _ ?side1 ?side2 A13.out).mono ?_); (case side1 => exact z19_); (case side2 => exact HC234.out); rintro e w' ⟨rfl, ⟨nd, rfl⟩⟩; (try first | exact ⟨rfl, _, World.drewN_drewN _ _ _⟩ | exact ⟨rfl, _, Eq.trans (World.drewN_drewN _ _ _) (congrArg (World.drewN _) (Nat.add_assoc _ _ _))⟩))))
      go_ret2
      exact ⟨_, by first | rfl | (simp [errW_none, errW_some] <;> rfl) | (simp [*, errW_none, errW_some] <;> rfl), by first | exact Kd.R_nil _ _ _ _ _ | exact Kd.N_nil _ _ _ _ _ | exact Kd.V_nil _ _ _ _ _ | exact Kd.Q_nil _ _ _ _ _ | exact Kd.S_nil _ _ _ _ _, by repeat (first | (with_reducible first | exact HB.out | apply below_alloc | apply pw_below_drewN | apply below_drew1) | exact HB.out)⟩
     ·rw [if_neg c14] at H
      have c14b0 : decide (t236 < 0) = false := decide_eq_false c14
      clear c14
      by_cases c16 : 0 ≤ t236
      rotate_left
      ·rw [if_neg c16] at H; exact absurd H (by simp)
      rw [if_pos c16] at H
      have c16b0 : decide (0 ≤ t236) = true := decide_eq_true c16
      clear c16
      by_cases c17 : t236 < (l0.length : Int)
      rotate_left
      ·rw [if_neg c17] at H; exact absurd H (by simp)
      rw [if_pos c17] at H
      have c17b0 : decide (t236 < (l0.length : Int)) = true := decide_eq_true c17
      clear c17
      replace H := Option.bind_eq_some_iff.mp H
      obtain ⟨t239, A180, H⟩ := H
      try dsimp only at H
      have A18 := Aside0.mk A180
      clear A180
      by_cases c19 : t239 = true
      ·subst c19
       have H1 : (if t236 < (x4_1.length : Int) then (if x4_1.length < 17592186044416 then (formeref10_depths.l0 k1 l0 (x4_1 ++ [wrap64 ((rd x4_1 t236) + 1)]) (wrap64 (x5_1 + 1))) else (none)) else (none)) = some (r1, r2) := by rw [if_pos rfl] at H; exact H
       clear H
       have H := H1
       clear H1
       by_cases c20 : t236 < (x4_1.length : Int)
       rotate_left
       ·rw [if_neg c20] at H; exact absurd H (by simp)
       rw [if_pos c20] at H
       have c20b0 : decide (t236 < (x4_1.length : Int)) = true := decide_eq_true c20
       clear c20
       by_cases c21 : x4_1.length < 17592186044416
       rotate_left
       ·rw [if_neg c21] at H; exact absurd H (by simp)
       rw [if_pos c21] at H
       have LMc21 := Aside0.mk c21
       clear c21
       obtain ⟨y241, hy241⟩ : ∃ y_ : List Int, y_ = (x4_1 ++ [wrap64 ((rd x4_1 t236) + 1)]) := ⟨_, rfl⟩
       replace H : (formeref10_depths.l0 k1 l0 y241 (wrap64 (x5_1 + 1))) = some (r1, r2) := by first | (rw [hy241]; with_reducible exact H) | (have H2_ := (Option.bind_some _ _).symm.trans H; rw [hy241]; with_reducible exact H2_) | (have H2_ := (Option.bind_some _ _).symm.trans H; with_reducible exact H2_) | with_reducible exact H | (rw [hy241]; exact H) | exact H
       have Ny241 := Aside0.mk hy241
       clear hy241
       have H' := Aside0.mk H
       clear H
       have q22 : (x5_1 : Int) ≤ ((l0.length : Int) : Int) := of_decide_eq_true z3_
       obtain ⟨i022, hi022, _, hsz22, _⟩ := info_parts info24
       have hroom22 : l0.length ≤ c0 := HC0.out
       have hC22 : Kd.C k24 _ A0 l0.length l0 := HR0.out
       have hcut22 := cut_to (P := Try.prog) 22 24 .i64 Try.underlying22 hi022 A0 l0.length c0 x5_1 (of_decide_eq_true z3_) q22 hroom22
       have hr22 := Kd.C_take (m := (x5_1 : Int).toNat) hC22 (by omega)
       have hy22 : y231.length = (x5_1 : Int).toNat := (by rw [Ny231.out, List.length_take]; omega)
       rw [← Ny231.out] at hr22
       rw [← hy22] at hcut22
       have HR234 := Aside0.mk hr22
       have HC234 := Aside0.mk (show y231.length ≤ c0 from by omega)
       clear hr22 hC22 hroom22 hi022 hsz22
       have KY22 := Aside0.mk hy22
       clear hy22
       replace q22 := eq_true q22
       have p235 : 0 ≤ (x5_1 : Int) := of_decide_eq_true z3_
       have q235 : x5_1 < (l0.length : Int) := of_decide_eq_true z3_
       obtain ⟨ad235, e235, hx235_0, hx235_1, hx235_2, hx235_3, hx235_4⟩ := at_T24 HR0.out x5_1 p235 q235
       cases e235
       replace hx235_0 := hbc_ HB.out hx235_0
       replace hx235_1 := hbc_ HB.out hx235_1
       replace hx235_2 := hbc_ HB.out hx235_2
       replace hx235_3 := hbc_ HB.out hx235_3
       replace hx235_4 := hbc_ HB.out hx235_4
       replace p235 := eq_true p235
       replace q235 := eq_true q235
       go_wp2_with (first | (go_at_call 34; (with_reducible refine (formeref10_Index.calls k1 _ _ y231 ((rd_T24 l0 x5_1).f1) t236 _ ?side1 ?side2 A13.out).mono ?_); (case side1 => exact z19_); (case side2 => exact HC234.out); rintro e w' ⟨rfl, ⟨nd, rfl⟩⟩; (try first | exact ⟨rfl, _, World.drewN_drewN _ _ _⟩ | exact ⟨rfl, _, Eq.trans (World.drewN_drewN _ _ _) (congrArg (World.drewN _) (Nat.add_assoc _ _ _))⟩); have p237 : 0 ≤ (x5_1 : Int) := of_decide_eq_true z3_; have q237 : x5_1 < (l0.length : Int) := of_decide_eq_true z3_; obtain ⟨ad237, e237, hx237_0, hx237_1, hx237_2, hx237_3, hx237_4⟩ := at_T24 HR0.out x5_1 p237 q237; obtain rfl : ad235 = ad237 := (by injection e237); replace hx237_0 := hbc_ HB.out hx237_0; replace hx237_1 := hbc_ HB.out hx237_1; replace hx237_2 := hbc_ HB.out hx237_2; replace hx237_3 := hbc_ HB.out hx237_3; replace hx237_4 := hbc_ HB.out hx237_4; replace p237 := eq_true p237; replace q237 := eq_true q237; have p238 : 0 ≤ (t236 : Int) := of_decide_eq_true z3_; have q238 : t236 < (l0.length : Int) := of_decide_eq_true z3_; obtain ⟨ad238, e238, hx238_0, hx238_1, hx238_2, hx238_3, hx238_4⟩ := at_T24 HR0.out t236 p238 q238; obtain rfl : ad235 = ad238 := (by injection e238); replace hx238_0 := hbc_ HB.out hx238_0; replace hx238_1 := hbc_ HB.out hx238_1; replace hx238_2 := hbc_ HB.out hx238_2; replace hx238_3 := hbc_ HB.out hx238_3; replace hx238_4 := hbc_ HB.out hx238_4; replace p238 := eq_true p238; replace q238 := eq_true q238) | (go_at_call 46; (with_reducible refine (formeref10_Stands.calls ((rd_T24 l0 x5_1).f2) ((rd_T24 l0 t236).f2) true _ A18.out).mono ?_); rintro e w' ⟨rfl, ⟨nd, rfl⟩⟩; (try first | exact ⟨rfl, _, World.drewN_drewN _ _ _⟩ | exact ⟨rfl, _, Eq.trans (World.drewN_drewN _ _ _) (congrArg (World.drewN _) (Nat.add_assoc _ _ _))⟩); obtain ⟨Ao23, co23, eo23⟩ := Kd.R_slice HO_4.out; subst eo23; have p240 : 0 ≤ (t236 : Int) := of_decide_eq_true z3_; have q240 : t236 < (x4_1.length : Int) := of_decide_eq_true z3_; obtain ⟨ad240, e240, hx240_0⟩ := Kd.at_int (Kd.R_reads' HO_4.out).2.2 t236 p240 q240; cases e240; replace p240 := eq_true p240; replace q240 := eq_true q240) | ((with_reducible refine gate_builtin (b := .append) (xs := #[.tmp 55, .tmp 61]) rfl ?_); at_builtin; refine Kd.R_append (Kd.int .i64) (w0 := w) w.heap.size rfl (.tmp 55) (.tmp 61) 30 3 (.int .i64 0) 8 rfl Try.underlying30 info3 rfl (by decide) (by omega) (.slice (some ad240) x4_1.length co23) x4_1 (wrap64 ((rd x4_1 t236) + 1)) [.int .i64 (wrap64 ((rd x4_1 t236) + 1))] (fun _ => True) (fun _ => False) rfl rfl ?aP (fun _ hk => hk.elim) ?aF ?aO ?aB ?aS ?aL ?_; (case aP => exact rfl); (case aB => exact z1_); (case aF => exact (fun _ _ => trivial)); (case aO => exact z20_); (case aS => exact (below_size z1_)); (case aL => have := LMc21.out; omega); intro v242 w24 ho hb hg hat; rw [← Ny241.out] at ho; have n0_ := Aside0.mk (hb); have n1_ := Aside0.mk (ho); clear HB; clear HO_4; have HB := n0_; have HO243 := n1_; clear n0_ n1_; clear ho hb hg hat))
       repeat (go_quiet (first | (go_at_call 34; (with_reducible refine (formeref10_Index.calls k1 _ _ y231 ((rd_T24 l0 x5_1).f1) t236 _ ?side1 ?side2 A13.out).mono ?_); (case side1 => exact z19_); (case side2 => exact HC234.out); rintro e w' ⟨rfl, ⟨nd, rfl⟩⟩; (try first | exact ⟨rfl, _, World.drewN_drewN _ _ _⟩ | exact ⟨rfl, _, Eq.trans (World.drewN_drewN _ _ _) (congrArg (World.drewN _) (Nat.add_assoc _ _ _))⟩); have p237 : 0 ≤ (x5_1 : Int) := of_decide_eq_true z3_; have q237 : x5_1 < (l0.length : Int) := of_decide_eq_true z3_; obtain ⟨ad237, e237, hx237_0, hx237_1, hx237_2, hx237_3, hx237_4⟩ := at_T24 HR0.out x5_1 p237 q237; obtain rfl : ad235 = ad237 := (by injection e237); replace hx237_0 := hbc_ HB.out hx237_0; replace hx237_1 := hbc_ HB.out hx237_1; replace hx237_2 := hbc_ HB.out hx237_2; replace hx237_3 := hbc_ HB.out hx237_3; replace hx237_4 := hbc_ HB.out hx237_4; replace p237 := eq_true p237; replace q237 := eq_true q237; have p238 : 0 ≤ (t236 : Int) := of_decide_eq_true z3_; have q238 : t236 < (l0.length : Int) := of_decide_eq_true z3_; obtain ⟨ad238, e238, hx238_0, hx238_1, hx238_2, hx238_3, hx238_4⟩ := at_T24 HR0.out t236 p238 q238; obtain rfl : ad235 = ad238 := (by injection e238); replace hx238_0 := hbc_ HB.out hx238_0; replace hx238_1 := hbc_ HB.out hx238_1; replace hx238_2 := hbc_ HB.out hx238_2; replace hx238_3 := hbc_ HB.out hx238_3; replace hx238_4 := hbc_ HB.out hx238_4; replace p238 := eq_true p238; replace q238 := eq_true q238) | (go_at_call 46; (with_reducible refine (formeref10_Stands.calls ((rd_T24 l0 x5_1).f2) ((rd_T24 l0 t236).f2) true _ A18.out).mono ?_); rintro e w' ⟨rfl, ⟨nd, rfl⟩⟩; (try first | exact ⟨rfl, _, World.drewN_drewN _ _ _⟩ | exact ⟨rfl, _, Eq.trans (World.drewN_drewN _ _ _) (congrArg (World.drewN _) (Nat.add_assoc _ _ _))⟩); obtain ⟨Ao23, co23, eo23⟩ := Kd.R_slice HO_4.out; subst eo23; have p240 : 0 ≤ (t236 : Int) := of_decide_eq_true z3_; have q240 : t236 < (x4_1.length : Int) := of_decide_eq_true z3_; obtain ⟨ad240, e240, hx240_0⟩ := Kd.at_int (Kd.R_reads' HO_4.out).2.2 t236 p240 q240; cases e240; replace p240 := eq_true p240; replace q240 := eq_true q240) | ((with_reducible refine gate_builtin (b := .append) (xs := #[.tmp 55, .tmp 61]) rfl ?_); at_builtin; refine Kd.R_append (Kd.int .i64) (w0 := w) w.heap.size rfl (.tmp 55) (.tmp 61) 30 3 (.int .i64 0) 8 rfl Try.underlying30 info3 rfl (by decide) (by omega) (.slice (some ad240) x4_1.length co23) x4_1 (wrap64 ((rd x4_1 t236) + 1)) [.int .i64 (wrap64 ((rd x4_1 t236) + 1))] (fun _ => True) (fun _ => False) rfl rfl ?aP (fun _ hk => hk.elim) ?aF ?aO ?aB ?aS ?aL ?_; (case aP => exact rfl); (case aB => exact z1_); (case aF => exact (fun _ _ => trivial)); (case aO => exact z20_); (case aS => exact (below_size z1_)); (case aL => have := LMc21.out; omega); intro v242 w24 ho hb hg hat; rw [← Ny241.out] at ho; have n0_ := Aside0.mk (hb); have n1_ := Aside0.mk (ho); clear HB; clear HO_4; have HB := n0_; have HO243 := n1_; clear n0_ n1_; clear ho hb hg hat)); try go_wp2_with (first | (go_at_call 34; (with_reducible refine (formeref10_Index.calls k1 _ _ y231 ((rd_T24 l0 x5_1).f1) t236 _ ?side1 ?side2 A13.out).mono ?_); (case side1 => exact z19_); (case side2 => exact HC234.out); rintro e w' ⟨rfl, ⟨nd, rfl⟩⟩; (try first | exact ⟨rfl, _, World.drewN_drewN _ _ _⟩ | exact ⟨rfl, _, Eq.trans (World.drewN_drewN _ _ _) (congrArg (World.drewN _) (Nat.add_assoc _ _ _))⟩); have p237 : 0 ≤ (x5_1 : Int) := of_decide_eq_true z3_; have q237 : x5_1 < (l0.length : Int) := of_decide_eq_true z3_; obtain ⟨ad237, e237, hx237_0, hx237_1, hx237_2, hx237_3, hx237_4⟩ := at_T24 HR0.out x5_1 p237 q237; obtain rfl : ad235 = ad237 := (by injection e237); replace hx237_0 := hbc_ HB.out hx237_0; replace hx237_1 := hbc_ HB.out hx237_1; replace hx237_2 := hbc_ HB.out hx237_2; replace hx237_3 := hbc_ HB.out hx237_3; replace hx237_4 := hbc_ HB.out hx237_4; replace p237 := eq_true p237; replace q237 := eq_true q237; have p238 : 0 ≤ (t236 : Int) := of_decide_eq_true z3_; have q238 : t236 < (l0.length : Int) := of_decide_eq_true z3_; obtain ⟨ad238, e238, hx238_0, hx238_1, hx238_2, hx238_3, hx238_4⟩ := at_T24 HR0.out t236 p238 q238; obtain rfl : ad235 = ad238 := (by injection e238); replace hx238_0 := hbc_ HB.out hx238_0; replace hx238_1 := hbc_ HB.out hx238_1; replace hx238_2 := hbc_ HB.out hx238_2; replace hx238_3 := hbc_ HB.out hx238_3; replace hx238_4 := hbc_ HB.out hx238_4; replace p238 := eq_true p238; replace q238 := eq_true q238) | (go_at_call 46; (with_reducible refine (formeref10_Stands.calls ((rd_T24 l0 x5_1).f2) ((rd_T24 l0 t236).f2) true _ A18.out).mono ?_); rintro e w' ⟨rfl, ⟨nd, rfl⟩⟩; (try first | exact ⟨rfl, _, World.drewN_drewN _ _ _⟩ | exact ⟨rfl, _, Eq.trans (World.drewN_drewN _ _ _) (congrArg (World.drewN _) (Nat.add_assoc _ _ _))⟩); obtain ⟨Ao23, co23, eo23⟩ := Kd.R_slice HO_4.out; subst eo23; have p240 : 0 ≤ (t236 : Int) := of_decide_eq_true z3_; have q240 : t236 < (x4_1.length : Int) := of_decide_eq_true z3_; obtain ⟨ad240, e240, hx240_0⟩ := Kd.at_int (Kd.R_reads' HO_4.out).2.2 t236 p240 q240; cases e240; replace p240 := eq_true p240; replace q240 := eq_true q240) | ((with_reducible refine gate_builtin (b := .append) (xs := #[.tmp 55, .tmp 61]) rfl ?_); at_builtin; refine Kd.R_append (Kd.int .i64) (w0 := w) w.heap.size rfl (.tmp 55) (.tmp 61) 30 3 (.int .i64 0) 8 rfl Try.underlying30 info3 rfl (by decide) (by omega) (.slice (some ad240) x4_1.length co23) x4_1 (wrap64 ((rd x4_1 t236) + 1)) [.int .i64 (wrap64 ((rd x4_1 t236) + 1))] (fun _ => True) (fun _ => False) rfl rfl ?aP (fun _ hk => hk.elim) ?aF ?aO ?aB ?aS ?aL ?_; (case aP => exact rfl); (case aB => exact z1_); (case aF => exact (fun _ _ => trivial)); (case aO => exact z20_); (case aS => exact (below_size z1_)); (case aL => have := LMc21.out; omega); intro v242 w24 ho hb hg hat; rw [← Ny241.out] at ho; have n0_ := Aside0.mk (hb); have n1_ := Aside0.mk (ho); clear HB; clear HO_4; have HB := n0_; have HO243 := n1_; clear n0_ n1_; clear ho hb hg hat)))
       go_roundg k1
       case measure => have := HK1.out; omega
       case rel => exact ⟨(y241), (wrap64 (x5_1 + 1)), z8_, H', ⟨by have := HK1.out; omega⟩, ⟨by (with_reducible repeat (first | apply Kd.R_alloc | apply Kd.R_drewN | apply Kd.R_drew)); exact HO243.out⟩, ⟨by repeat (first | (with_reducible first | exact HB.out | apply below_alloc | apply pw_below_drewN | apply below_drew1) | exact HB.out)⟩⟩
      ·replace c19 := Bool.eq_false_iff.mpr c19
       subst c19
       have H1 : (some (([] : List Int), false)) = some (r1, r2) := by rw [if_neg (show ¬ (false = true) by decide)] at H; exact H
       clear H
       have H := H1
       clear H1
       simp only [Option.some.injEq, Prod.mk.injEq] at H
       obtain ⟨rfl, rfl⟩ := H
       have q25 : (x5_1 : Int) ≤ ((l0.length : Int) : Int) := of_decide_eq_true z3_
       obtain ⟨i025, hi025, _, hsz25, _⟩ := info_parts info24
       have hroom25 : l0.length ≤ c0 := HC0.out
       have hC25 : Kd.C k24 _ A0 l0.length l0 := HR0.out
       have hcut25 := cut_to (P := Try.prog) 22 24 .i64 Try.underlying22 hi025 A0 l0.length c0 x5_1 (of_decide_eq_true z3_) q25 hroom25
       have hr25 := Kd.C_take (m := (x5_1 : Int).toNat) hC25 (by omega)
       have hy25 : y231.length = (x5_1 : Int).toNat := (by rw [Ny231.out, List.length_take]; omega)
       rw [← Ny231.out] at hr25
       rw [← hy25] at hcut25
       have HR234 := Aside0.mk hr25
       have HC234 := Aside0.mk (show y231.length ≤ c0 from by omega)
       clear hr25 hC25 hroom25 hi025 hsz25
       have KY25 := Aside0.mk hy25
       clear hy25
       replace q25 := eq_true q25
       have p235 : 0 ≤ (x5_1 : Int) := of_decide_eq_true z3_
       have q235 : x5_1 < (l0.length : Int) := of_decide_eq_true z3_
       obtain ⟨ad235, e235, hx235_0, hx235_1, hx235_2, hx235_3, hx235_4⟩ := at_T24 HR0.out x5_1 p235 q235
       cases e235
       replace hx235_0 := hbc_ HB.out hx235_0
       replace hx235_1 := hbc_ HB.out hx235_1
       replace hx235_2 := hbc_ HB.out hx235_2
       replace hx235_3 := hbc_ HB.out hx235_3
       replace hx235_4 := hbc_ HB.out hx235_4
       replace p235 := eq_true p235
       replace q235 := eq_true q235
       go_wp2_with (first | (go_at_call 34; (with_reducible refine (formeref10_Index.calls k1 _ _ y231 ((rd_T24 l0 x5_1).f1) t236 _ ?side1 ?side2 A13.out).mono ?_); (case side1 => exact z19_); (case side2 => exact HC234.out); rintro e w' ⟨rfl, ⟨nd, rfl⟩⟩; (try first | exact ⟨rfl, _, World.drewN_drewN _ _ _⟩ | exact ⟨rfl, _, Eq.trans (World.drewN_drewN _ _ _) (congrArg (World.drewN _) (Nat.add_assoc _ _ _))⟩); have p237 : 0 ≤ (x5_1 : Int) := of_decide_eq_true z3_; have q237 : x5_1 < (l0.length : Int) := of_decide_eq_true z3_; obtain ⟨ad237, e237, hx237_0, hx237_1, hx237_2, hx237_3, hx237_4⟩ := at_T24 HR0.out x5_1 p237 q237; obtain rfl : ad235 = ad237 := (by injection e237); replace hx237_0 := hbc_ HB.out hx237_0; replace hx237_1 := hbc_ HB.out hx237_1; replace hx237_2 := hbc_ HB.out hx237_2; replace hx237_3 := hbc_ HB.out hx237_3; replace hx237_4 := hbc_ HB.out hx237_4; replace p237 := eq_true p237; replace q237 := eq_true q237; have p238 : 0 ≤ (t236 : Int) := of_decide_eq_true z3_; have q238 : t236 < (l0.length : Int) := of_decide_eq_true z3_; obtain ⟨ad238, e238, hx238_0, hx238_1, hx238_2, hx238_3, hx238_4⟩ := at_T24 HR0.out t236 p238 q238; obtain rfl : ad235 = ad238 := (by injection e238); replace hx238_0 := hbc_ HB.out hx238_0; replace hx238_1 := hbc_ HB.out hx238_1; replace hx238_2 := hbc_ HB.out hx238_2; replace hx238_3 := hbc_ HB.out hx238_3; replace hx238_4 := hbc_ HB.out hx238_4; replace p238 := eq_true p238; replace q238 := eq_true q238) | (go_at_call 46; (with_reducible refine (formeref10_Stands.calls ((rd_T24 l0 x5_1).f2) ((rd_T24 l0 t236).f2) false _ A18.out).mono ?_); rintro e w' ⟨rfl, ⟨nd, rfl⟩⟩; (try first | exact ⟨rfl, _, World.drewN_drewN _ _ _⟩ | exact ⟨rfl, _, Eq.trans (World.drewN_drewN _ _ _) (congrArg (World.drewN _) (Nat.add_assoc _ _ _))⟩)))
       repeat (go_quiet (first | (go_at_call 34; (with_reducible refine (formeref10_Index.calls k1 _ _ y231 ((rd_T24 l0 x5_1).f1) t236 _ ?side1 ?side2 A13.out).mono ?_); (case side1 => exact z19_); (case side2 => exact HC234.out); rintro e w' ⟨rfl, ⟨nd, rfl⟩⟩; (try first | exact ⟨rfl, _, World.drewN_drewN _ _ _⟩ | exact ⟨rfl, _, Eq.trans (World.drewN_drewN _ _ _) (congrArg (World.drewN _) (Nat.add_assoc _ _ _))⟩); have p237 : 0 ≤ (x5_1 : Int) := of_decide_eq_true z3_; have q237 : x5_1 < (l0.length : Int) := of_decide_eq_true z3_; obtain ⟨ad237, e237, hx237_0, hx237_1, hx237_2, hx237_3, hx237_4⟩ := at_T24 HR0.out x5_1 p237 q237; obtain rfl : ad235 = ad237 := (by injection e237); replace hx237_0 := hbc_ HB.out hx237_0; replace hx237_1 := hbc_ HB.out hx237_1; replace hx237_2 := hbc_ HB.out hx237_2; replace hx237_3 := hbc_ HB.out hx237_3; replace hx237_4 := hbc_ HB.out hx237_4; replace p237 := eq_true p237; replace q237 := eq_true q237; have p238 : 0 ≤ (t236 : Int) := of_decide_eq_true z3_; have q238 : t236 < (l0.length : Int) := of_decide_eq_true z3_; obtain ⟨ad238, e238, hx238_0, hx238_1, hx238_2, hx238_3, hx238_4⟩ := at_T24 HR0.out t236 p238 q238; obtain rfl : ad235 = ad238 := (by injection e238); replace hx238_0 := hbc_ HB.out hx238_0; replace hx238_1 := hbc_ HB.out hx238_1; replace hx238_2 := hbc_ HB.out hx238_2; replace hx238_3 := hbc_ HB.out hx238_3; replace hx238_4 := hbc_ HB.out hx238_4; replace p238 := eq_true p238; replace q238 := eq_true q238) | (go_at_call 46; (with_reducible refine (formeref10_Stands.calls ((rd_T24 l0 x5_1).f2) ((rd_T24 l0 t236).f2) false _ A18.out).mono ?_); rintro e w' ⟨rfl, ⟨nd, rfl⟩⟩; (try first | exact ⟨rfl, _, World.drewN_drewN _ _ _⟩ | exact ⟨rfl, _, Eq.trans (World.drewN_drewN _ _ _) (congrArg (World.drewN _) (Nat.add_assoc _ _ _))⟩))); try go_wp2_with (first | (go_at_call 34; (with_reducible refine (formeref10_Index.calls k1 _ _ y231 ((rd_T24 l0 x5_1).f1) t236 _ ?side1 ?side2 A13.out).mono ?_); (case side1 => exact z19_); (case side2 => exact HC234.out); rintro e w' ⟨rfl, ⟨nd, rfl⟩⟩; (try first | exact ⟨rfl, _, World.drewN_drewN _ _ _⟩ | exact ⟨rfl, _, Eq.trans (World.drewN_drewN _ _ _) (congrArg (World.drewN _) (Nat.add_assoc _ _ _))⟩); have p237 : 0 ≤ (x5_1 : Int) := of_decide_eq_true z3_; have q237 : x5_1 < (l0.length : Int) := of_decide_eq_true z3_; obtain ⟨ad237, e237, hx237_0, hx237_1, hx237_2, hx237_3, hx237_4⟩ := at_T24 HR0.out x5_1 p237 q237; obtain rfl : ad235 = ad237 := (by injection e237); replace hx237_0 := hbc_ HB.out hx237_0; replace hx237_1 := hbc_ HB.out hx237_1; replace hx237_2 := hbc_ HB.out hx237_2; replace hx237_3 := hbc_ HB.out hx237_3; replace hx237_4 := hbc_ HB.out hx237_4; replace p237 := eq_true p237; replace q237 := eq_true q237; have p238 : 0 ≤ (t236 : Int) := of_decide_eq_true z3_; have q238 : t236 < (l0.length : Int) := of_decide_eq_true z3_; obtain ⟨ad238, e238, hx238_0, hx238_1, hx238_2, hx238_3, hx238_4⟩ := at_T24 HR0.out t236 p238 q238; obtain rfl : ad235 = ad238 := (by injection e238); replace hx238_0 := hbc_ HB.out hx238_0; replace hx238_1 := hbc_ HB.out hx238_1; replace hx238_2 := hbc_ HB.out hx238_2; replace hx238_3 := hbc_ HB.out hx238_3; replace hx238_4 := hbc_ HB.out hx238_4; replace p238 := eq_true p238; replace q238 := eq_true q238) | (go_at_call 46; (with_reducible refine (formeref10_Stands.calls ((rd_T24 l0 x5_1).f2) ((rd_T24 l0 t236).f2) false _ A18.out).mono ?_); rintro e w' ⟨rfl, ⟨nd, rfl⟩⟩; (try first | exact ⟨rfl, _, World.drewN_drewN _ _ _⟩ | exact ⟨rfl, _, Eq.trans (World.drewN_drewN _ _ _) (congrArg (World.drewN _) (Nat.add_assoc _ _ _))⟩))))
       go_ret2
       exact ⟨_, by first | rfl | (simp [errW_none, errW_some] <;> rfl) | (simp [*, errW_none, errW_some] <;> rfl), by first | exact Kd.R_nil _ _ _ _ _ | exact Kd.N_nil _ _ _ _ _ | exact Kd.V_nil _ _ _ _ _ | exact Kd.Q_nil _ _ _ _ _ | exact Kd.S_nil _ _ _ _ _, by repeat (first | (with_reducible first | exact HB.out | apply below_alloc | apply pw_below_drewN | apply below_drew1) | exact HB.out)⟩
   ·rw [if_neg c2] at H
    have c2b0 : decide (x5_1 < (l0.length : Int)) = false := decide_eq_false c2
    clear c2
    simp only [Option.some.injEq, Prod.mk.injEq] at H
    obtain ⟨rfl, rfl⟩ := H
    go_wp2
    repeat (go_quiet (fail); try go_wp2)
    go_ret2
    exact ⟨_, by first | rfl | (simp [errW_none, errW_some] <;> rfl) | (simp [*, errW_none, errW_some] <;> rfl), by (with_reducible repeat (first | apply Kd.R_alloc | apply Kd.R_drewN | apply Kd.R_drew)); exact HO_4.out, by repeat (first | (with_reducible first | exact HB.out | apply below_alloc | apply pw_below_drewN | apply below_drew1) | exact HB.out)⟩
end Go.Proofs.Ytpafhhgoldenoaa.P
end
section
namespace Go.Proofs.Ytpafhhgoldenoaa.P
open Go.RowKit Go.Proofs.YtpafhhgoldenoaaW.PrintWords Go.Proofs.YtpafhhgoldenoaaW.PrintLast Go.Proofs.YtpafhhgoldenoaaW.PrintMore
attribute [local go_sem] max2_int min2_int max_two min_two max_three min_three max_four min_four
set_option linter.unusedVariables false
set_option linter.unusedSimpArgs false
mutual
def formeref10_Valid.j0 : Nat → List (S24) → Bool → Option (Bool)
 | 0, _, _ => none
 | k + 1, x0, x15 => if x15 = true then (some false) else (formeref10_Valid.l0 k x0 0)
def formeref10_Valid.l0 : Nat → List (S24) → Int → Option (Bool)
 | 0, _, _ => none
 | k + 1, x0, x3 => if x3 < (x0.length : Int) then (if 0 ≤ x3 then ((formeref10_Node.f k ((rd_T24 x0 x3).f0) ((rd_T24 x0 x3).f1) ((rd_T24 x0 x3).f2) ((rd_T24 x0 x3).f3) ((rd_T24 x0 x3).f4)).bind fun t245 => (if t245 = true then (if x3 ≤ (x0.length : Int) then ((formeref10_Index.f k (x0.take (x3 : Int).toNat) ((rd_T24 x0 x3).f0)).bind fun t251 => (if t251 ≥ 0 then (some false) else (formeref10_Valid.l0 k x0 (wrap64 (x3 + 1))))) else (none)) else (some false))) else (none)) else ((formeref10_depths.f k x0).bind fun bt252 => (formeref10_Valid.l1 k bt252.1 bt252.2 0))
def formeref10_Valid.l1 : Nat → List Int → Bool → Int → Option (Bool)
 | 0, _, _, _ => none
 | k + 1, x5, x6, x7 => if x7 < (x5.length : Int) then (if 0 ≤ x7 then (if (rd x5 x7) > 30 then (some false) else (formeref10_Valid.l1 k x5 x6 (wrap64 (x7 + 1)))) else (none)) else (some x6)
end
def formeref10_Valid.f (k : Nat) (l0 : List (S24)) : Option (Bool) := if (l0.length : Int) < 1 then (formeref10_Valid.j0 k l0 true) else (formeref10_Valid.j0 k l0 (decide ((l0.length : Int) > 4000)))
set_option maxHeartbeats 8000000 in
set_option maxRecDepth 100000 in
theorem formeref10_Valid.calls (k : Nat) (A0 : Option Addr) (c0 : Nat) (l0 : List (S24)) (r : Bool) (w : World) (hr0 : Kd.C k24 w A0 l0.length l0) (hc0 : l0.length ≤ c0) (h : formeref10_Valid.f k l0 = some r) :
  Calls Try.prog 14 #[.slice A0 l0.length c0] w fun e w' => e = .returned (.bool r) ∧ Below w.heap.size w w' := by
 have hu24 := Try.underlying24
 have HR0 := Aside0.mk hr0
 have HC0 := Aside0.mk hc0
 clear hr0 hc0
 have HB := Aside0.mk (Below.refl w.heap.size w)
 have H : (if (l0.length : Int) < 1 then (formeref10_Valid.j0 k l0 true) else (formeref10_Valid.j0 k l0 (decide ((l0.length : Int) > 4000)))) = some r := h
 clear h
 have HC2 := Aside0.mk H
 clear H
 go_enter Try.func14, Try.ntmps14
 go_upto_region 1 with (fail)
 repeat (go_quiet (fail); go_upto_region 1 with (fail))
 go_cut [15] (fun v15 wc => ∃ (kq : Nat) (x15_1 : Bool), v15 = .bool x15_1 ∧ Aside0 (formeref10_Valid.j0 kq l0 x15_1 = some r) ∧ Aside0 (kq ≤ k) ∧ Aside0 (Below w.heap.size w wc))
 case first =>
  have H := HC2.out
  clear HC2
  by_cases c3 : (l0.length : Int) < 1
  ·rw [if_pos c3] at H
   have c3b0 : decide ((l0.length : Int) < 1) = true := decide_eq_true c3
   have c3b1 : decide (l0.length < 1) = true := decide_eq_true (by omega)
   clear c3
   (first | rw [c3b0] | (simp only [i64_w, i32_w]; rw [c3b0]) | skip)
   have H' := Aside0.mk H
   clear H
   go_wp2
   repeat (go_quiet (fail); try go_wp2)
   go_meet
   case rel => exact ⟨_, (true), z8_, H', ⟨by first | omega | exact Nat.le_refl _⟩, ⟨by repeat (first | (with_reducible first | exact HB.out | apply below_alloc | apply pw_below_drewN | apply below_drew1) | exact HB.out)⟩⟩
  ·rw [if_neg c3] at H
   have c3b0 : decide ((l0.length : Int) < 1) = false := decide_eq_false c3
   have c3b1 : decide (l0.length < 1) = false := decide_eq_false (by omega)
   clear c3
   (first | rw [c3b0] | (simp only [i64_w, i32_w]; rw [c3b0]) | skip)
   have H' := Aside0.mk H
   clear H
   go_wp2
   repeat (go_quiet (fail); try go_wp2)
   go_meet
   case rel => exact ⟨_, (decide ((l0.length : Int) > 4000)), z8_, H', ⟨by first | omega | exact Nat.le_refl _⟩, ⟨by repeat (first | (with_reducible first | exact HB.out | apply below_alloc | apply pw_below_drewN | apply below_drew1) | exact HB.out)⟩⟩
 case rest =>
  clear HC2
  try clear c1
  try clear p2
  try clear c3
  try clear c3b0
  try clear c3b1
  obtain ⟨kq, x15_1, rfl, HA, HJ1, HB⟩ := hcut
  cases kq with
  | zero => exact absurd HA.out (by simp [formeref10_Valid.j0])
  | succ kj1 =>
   have H := HA.out
   clear HA
   simp only [formeref10_Valid.j0] at H
   by_cases c4 : x15_1 = true
   ·subst c4
    have H1 : (some false) = some r := by rw [if_pos rfl] at H; exact H
    clear H
    have H := H1
    clear H1
    obtain rfl := Option.some.inj H
    go_wp2
    repeat (go_quiet (fail); try go_wp2)
    go_ret
    exact ⟨by first | rfl | (simp [errW_none, errW_some] <;> rfl) | (simp [*, errW_none, errW_some] <;> rfl), by repeat (first | (with_reducible first | exact HB.out | apply below_alloc | apply pw_below_drewN | apply below_drew1) | exact HB.out)⟩
   ·replace c4 := Bool.eq_false_iff.mpr c4
    subst c4
    have H1 : (formeref10_Valid.l0 kj1 l0 0) = some r := by rw [if_neg (show ¬ (false = true) by decide)] at H; exact H
    clear H
    have H := H1
    clear H1
    have H' := Aside0.mk H
    clear H
    go_wp2
    repeat (go_quiet (fail); try go_wp2)
    go_loopg [3] kj1 (fun kq v3 w' => ∃ (x3_2 : Int), v3 = .int .i64 x3_2 ∧ Aside0 (formeref10_Valid.l0 kq l0 x3_2 = some r) ∧ Aside0 (kq ≤ kj1) ∧ Aside0 (Below w.heap.size w w'))
    case atStart => exact ⟨(0), z8_, H', ⟨Nat.le_refl _⟩, ⟨by repeat (first | (with_reducible first | exact HB.out | apply below_alloc | apply pw_below_drewN | apply below_drew1) | exact HB.out)⟩⟩
    case round =>
     clear H'
     try clear c1
     try clear p2
     try clear c3
     try clear c3b0
     try clear c3b1
     try clear c4
     try clear p2
     obtain ⟨x3_2, rfl, HA, HK2, HB⟩ := hrel
     cases gk with
     | zero => exact absurd HA.out (by simp [formeref10_Valid.l0])
     | succ k2 =>
      have H := HA.out
      clear HA
      simp only [formeref10_Valid.l0] at H
      by_cases c5 : x3_2 < (l0.length : Int)
      ·rw [if_pos c5] at H
       have c5b0 : decide (x3_2 < (l0.length : Int)) = true := decide_eq_true c5
       clear c5
       by_cases c6 : 0 ≤ x3_2
       rotate_left
       ·rw [if_neg c6] at H; exact absurd H (by simp)
       rw [if_pos c6] at H
       have c6b0 : decide (0 ≤ x3_2) = true := decide_eq_true c6
       clear c6
       replace H := Option.bind_eq_some_iff.mp H
       obtain ⟨t245, A70, H⟩ := H
       try dsimp only at H
       have A7 := Aside0.mk A70
       clear A70
       by_cases c8 : t245 = true
       ·subst c8
        have H1 : (if x3_2 ≤ (l0.length : Int) then ((formeref10_Index.f k2 (l0.take (x3_2 : Int).toNat) ((rd_T24 l0 x3_2).f0)).bind fun t251 => (if t251 ≥ 0 then (some false) else (formeref10_Valid.l0 k2 l0 (wrap64 (x3_2 + 1))))) else (none)) = some r := by rw [if_pos rfl] at H; exact H
        clear H
        have H := H1
        clear H1
        have c9b0 := eq_true (of_decide_eq_true z3_ : 0 ≤ x3_2)
        by_cases c10 : x3_2 ≤ (l0.length : Int)
        rotate_left
        ·rw [if_neg c10] at H; exact absurd H (by simp)
        rw [if_pos c10] at H
        have c10b0 := eq_true c10
        have c10b1 : decide (x3_2 ≤ (l0.length : Int)) = true := decide_eq_true c10
        clear c10
        obtain ⟨y246, hy246⟩ : ∃ y_ : List (S24), y_ = (l0.take (x3_2 : Int).toNat) := ⟨_, rfl⟩
        replace H : ((formeref10_Index.f k2 y246 ((rd_T24 l0 x3_2).f0)).bind fun t251 => (if t251 ≥ 0 then (some false) else (formeref10_Valid.l0 k2 l0 (wrap64 (x3_2 + 1))))) = some r := by first | (rw [hy246]; with_reducible exact H) | (have H2_ := (Option.bind_some _ _).symm.trans H; rw [hy246]; with_reducible exact H2_) | (have H2_ := (Option.bind_some _ _).symm.trans H; with_reducible exact H2_) | with_reducible exact H | (rw [hy246]; exact H) | exact H
        have Ny246 := Aside0.mk hy246
        clear hy246
        replace H := Option.bind_eq_some_iff.mp H
        obtain ⟨t251, A110, H⟩ := H
        try dsimp only at H
        have A11 := Aside0.mk A110
        clear A110
        by_cases c12 : t251 ≥ 0
        ·rw [if_pos c12] at H
         have c12b0 : decide (0 ≤ t251) = true := decide_eq_true c12
         clear c12
         obtain rfl := Option.some.inj H
         have p244 : 0 ≤ (x3_2 : Int) := of_decide_eq_true z3_
         have q244 : x3_2 < (l0.length : Int) := of_decide_eq_true z3_
         obtain ⟨ad244, e244, hx244_0, hx244_1, hx244_2, hx244_3, hx244_4⟩ := at_T24 HR0.out x3_2 p244 q244
         cases e244
         replace hx244_0 := hbc_ HB.out hx244_0
         replace hx244_1 := hbc_ HB.out hx244_1
         replace hx244_2 := hbc_ HB.out hx244_2
         replace hx244_3 := hbc_ HB.out hx244_3
         replace hx244_4 := hbc_ HB.out hx244_4
         replace p244 := eq_true p244
         replace q244 := eq_true q244
         go_wp2_with (first | (go_at_call 35; (with_reducible refine (formeref10_Node.calls k2 ((rd_T24 l0 x3_2).f0) ((rd_T24 l0 x3_2).f1) ((rd_T24 l0 x3_2).f2) ((rd_T24 l0 x3_2).f3) ((rd_T24 l0 x3_2).f4) true _ A7.out).mono ?_); rintro e w13 ⟨rfl, hb⟩; have n0_ := Aside0.mk (below_step z1_ hb); clear HB; have HB := n0_; clear n0_; (try clear hb); (try clear hb2); (try clear hk); (try clear hi); have q14 : (x3_2 : Int) ≤ ((l0.length : Int) : Int) := of_decide_eq_true z3_; obtain ⟨i014, hi014, _, hsz14, _⟩ := info_parts info24; have hroom14 : l0.length ≤ c0 := HC0.out; have hC14 : Kd.C k24 _ (some ad244) l0.length l0 := HR0.out; have hcut14 := cut_to (P := Try.prog) 22 24 .i64 Try.underlying22 hi014 (some ad244) l0.length c0 x3_2 (of_decide_eq_true z3_) q14 hroom14; have hr14 := Kd.C_take (m := (x3_2 : Int).toNat) hC14 (by omega); have hy14 : y246.length = (x3_2 : Int).toNat := (by rw [Ny246.out, List.length_take]; omega); rw [← Ny246.out] at hr14; rw [← hy14] at hcut14; have HR249 := Aside0.mk hr14; have HC249 := Aside0.mk (show y246.length ≤ c0 from by omega); clear hr14 hC14 hroom14 hi014 hsz14; have KY14 := Aside0.mk hy14; clear hy14; replace q14 := eq_true q14; have p250 : 0 ≤ (x3_2 : Int) := of_decide_eq_true z3_; have q250 : x3_2 < (l0.length : Int) := of_decide_eq_true z3_; obtain ⟨ad250, e250, hx250_0, hx250_1, hx250_2, hx250_3, hx250_4⟩ := at_T24 HR0.out x3_2 p250 q250; obtain rfl : ad244 = ad250 := (by injection e250); replace hx250_0 := hbc_ HB.out hx250_0; replace hx250_1 := hbc_ HB.out hx250_1; replace hx250_2 := hbc_ HB.out hx250_2; replace hx250_3 := hbc_ HB.out hx250_3; replace hx250_4 := hbc_ HB.out hx250_4; replace p250 := eq_true p250; replace q250 := eq_true q250) | (go_at_call 34; (with_reducible refine (formeref10_Index.calls k2 _ _ y246 ((rd_T24 l0 x3_2).f0) t251 _ ?side1 ?side2 A11.out).mono ?_); (case side1 => exact z27_); (case side2 => exact HC249.out); rintro e w' ⟨rfl, ⟨nd, rfl⟩⟩; (try first | exact ⟨rfl, _, World.drewN_drewN _ _ _⟩ | exact ⟨rfl, _, Eq.trans (World.drewN_drewN _ _ _) (congrArg (World.drewN _) (Nat.add_assoc _ _ _))⟩)))
         repeat (go_quiet (first | (go_at_call 35; (with_reducible refine (formeref10_Node.calls k2 ((rd_T24 l0 x3_2).f0) ((rd_T24 l0 x3_2).f1) ((rd_T24 l0 x3_2).f2) ((rd_T24 l0 x3_2).f3) ((rd_T24 l0 x3_2).f4) true _ A7.out).mono ?_); rintro e w13 ⟨rfl, hb⟩; have n0_ := Aside0.mk (below_step z1_ hb); clear HB; have HB := n0_; clear n0_; (try clear hb); (try clear hb2); (try clear hk); (try clear hi); have q14 : (x3_2 : Int) ≤ ((l0.length : Int) : Int) := of_decide_eq_true z3_; obtain ⟨i014, hi014, _, hsz14, _⟩ := info_parts info24; have hroom14 : l0.length ≤ c0 := HC0.out; have hC14 : Kd.C k24 _ (some ad244) l0.length l0 := HR0.out; have hcut14 := cut_to (P := Try.prog) 22 24 .i64 Try.underlying22 hi014 (some ad244) l0.length c0 x3_2 (of_decide_eq_true z3_) q14 hroom14; have hr14 := Kd.C_take (m := (x3_2 : Int).toNat) hC14 (by omega); have hy14 : y246.length = (x3_2 : Int).toNat := (by rw [Ny246.out, List.length_take]; omega); rw [← Ny246.out] at hr14; rw [← hy14] at hcut14; have HR249 := Aside0.mk hr14; have HC249 := Aside0.mk (show y246.length ≤ c0 from by omega); clear hr14 hC14 hroom14 hi014 hsz14; have KY14 := Aside0.mk hy14; clear hy14; replace q14 := eq_true q14; have p250 : 0 ≤ (x3_2 : Int) := of_decide_eq_true z3_; have q250 : x3_2 < (l0.length : Int) := of_decide_eq_true z3_; obtain ⟨ad250, e250, hx250_0, hx250_1, hx250_2, hx250_3, hx250_4⟩ := at_T24 HR0.out x3_2 p250 q250; obtain rfl : ad244 = ad250 := (by injection e250); replace hx250_0 := hbc_ HB.out hx250_0; replace hx250_1 := hbc_ HB.out hx250_1; replace hx250_2 := hbc_ HB.out hx250_2; replace hx250_3 := hbc_ HB.out hx250_3; replace hx250_4 := hbc_ HB.out hx250_4; replace p250 := eq_true p250; replace q250 := eq_true q250) | (go_at_call 34; (with_reducible refine (formeref10_Index.calls k2 _ _ y246 ((rd_T24 l0 x3_2).f0) t251 _ ?side1 ?side2 A11.out).mono ?_); (case side1 => exact z27_); (case side2 => exact HC249.out); rintro e w' ⟨rfl, ⟨nd, rfl⟩⟩; (try first | exact ⟨rfl, _, World.drewN_drewN _ _ _⟩ | exact ⟨rfl, _, Eq.trans (World.drewN_drewN _ _ _) (congrArg (World.drewN _) (Nat.add_assoc _ _ _))⟩))); try go_wp2_with (first | (go_at_call 35; (with_reducible refine (formeref10_Node.calls k2 ((rd_T24 l0 x3_2).f0) ((rd_T24 l0 x3_2).f1) ((rd_T24 l0 x3_2).f2) ((rd_T24 l0 x3_2).f3) ((rd_T24 l0 x3_2).f4) true _ A7.out).mono ?_); rintro e w13 ⟨rfl, hb⟩; have n0_ := Aside0.mk (below_step z1_ hb); clear HB; have HB := n0_; clear n0_; (try clear hb); (try clear hb2); (try clear hk); (try clear hi); have q14 : (x3_2 : Int) ≤ ((l0.length : Int) : Int) := of_decide_eq_true z3_; obtain ⟨i014, hi014, _, hsz14, _⟩ := info_parts info24; have hroom14 : l0.length ≤ c0 := HC0.out; have hC14 : Kd.C k24 _ (some ad244) l0.length l0 := HR0.out; have hcut14 := cut_to (P := Try.prog) 22 24 .i64 Try.underlying22 hi014 (some ad244) l0.length c0 x3_2 (of_decide_eq_true z3_) q14 hroom14; have hr14 := Kd.C_take (m := (x3_2 : Int).toNat) hC14 (by omega); have hy14 : y246.length = (x3_2 : Int).toNat := (by rw [Ny246.out, List.length_take]; omega); rw [← Ny246.out] at hr14; rw [← hy14] at hcut14; have HR249 := Aside0.mk hr14; have HC249 := Aside0.mk (show y246.length ≤ c0 from by omega); clear hr14 hC14 hroom14 hi014 hsz14; have KY14 := Aside0.mk hy14; clear hy14; replace q14 := eq_true q14; have p250 : 0 ≤ (x3_2 : Int) := of_decide_eq_true z3_; have q250 : x3_2 < (l0.length : Int) := of_decide_eq_true z3_; obtain ⟨ad250, e250, hx250_0, hx250_1, hx250_2, hx250_3, hx250_4⟩ := at_T24 HR0.out x3_2 p250 q250; obtain rfl : ad244 = ad250 := (by injection e250); replace hx250_0 := hbc_ HB.out hx250_0; replace hx250_1 := hbc_ HB.out hx250_1; replace hx250_2 := hbc_ HB.out hx250_2; replace hx250_3 := hbc_ HB.out hx250_3; replace hx250_4 := hbc_ HB.out hx250_4; replace p250 := eq_true p250; replace q250 := eq_true q250) | (go_at_call 34; (with_reducible refine (formeref10_Index.calls k2 _ _ y246 ((rd_T24 l0 x3_2).f0) t251 _ ?side1 ?side2 A11.out).mono ?_); (case side1 => exact z27_); (case side2 => exact HC249.out); rintro e w' ⟨rfl, ⟨nd, rfl⟩⟩; (try first | exact ⟨rfl, _, World.drewN_drewN _ _ _⟩ | exact ⟨rfl, _, Eq.trans (World.drewN_drewN _ _ _) (congrArg (World.drewN _) (Nat.add_assoc _ _ _))⟩))))
         go_ret
         exact ⟨by first | rfl | (simp [errW_none, errW_some] <;> rfl) | (simp [*, errW_none, errW_some] <;> rfl), by repeat (first | (with_reducible first | exact HB.out | apply below_alloc | apply pw_below_drewN | apply below_drew1) | exact HB.out)⟩
        ·rw [if_neg c12] at H
         have c12b0 : decide (0 ≤ t251) = false := decide_eq_false c12
         clear c12
         have H' := Aside0.mk H
         clear H
         have p244 : 0 ≤ (x3_2 : Int) := of_decide_eq_true z3_
         have q244 : x3_2 < (l0.length : Int) := of_decide_eq_true z3_
         obtain ⟨ad244, e244, hx244_0, hx244_1, hx244_2, hx244_3, hx244_4⟩ := at_T24 HR0.out x3_2 p244 q244
         cases e244
         replace hx244_0 := hbc_ HB.out hx244_0
         replace hx244_1 := hbc_ HB.out hx244_1
         replace hx244_2 := hbc_ HB.out hx244_2
         replace hx244_3 := hbc_ HB.out hx244_3
         replace hx244_4 := hbc_ HB.out hx244_4
         replace p244 := eq_true p244
         replace q244 := eq_true q244
         go_wp2_with (first | (go_at_call 35; (with_reducible refine (formeref10_Node.calls k2 ((rd_T24 l0 x3_2).f0) ((rd_T24 l0 x3_2).f1) ((rd_T24 l0 x3_2).f2) ((rd_T24 l0 x3_2).f3) ((rd_T24 l0 x3_2).f4) true _ A7.out).mono ?_); rintro e w15 ⟨rfl, hb⟩; have n0_ := Aside0.mk (below_step z1_ hb); clear HB; have HB := n0_; clear n0_; (try clear hb); (try clear hb2); (try clear hk); (try clear hi); have q16 : (x3_2 : Int) ≤ ((l0.length : Int) : Int) := of_decide_eq_true z3_; obtain ⟨i016, hi016, _, hsz16, _⟩ := info_parts info24; have hroom16 : l0.length ≤ c0 := HC0.out; have hC16 : Kd.C k24 _ (some ad244) l0.length l0 := HR0.out; have hcut16 := cut_to (P := Try.prog) 22 24 .i64 Try.underlying22 hi016 (some ad244) l0.length c0 x3_2 (of_decide_eq_true z3_) q16 hroom16; have hr16 := Kd.C_take (m := (x3_2 : Int).toNat) hC16 (by omega); have hy16 : y246.length = (x3_2 : Int).toNat := (by rw [Ny246.out, List.length_take]; omega); rw [← Ny246.out] at hr16; rw [← hy16] at hcut16; have HR249 := Aside0.mk hr16; have HC249 := Aside0.mk (show y246.length ≤ c0 from by omega); clear hr16 hC16 hroom16 hi016 hsz16; have KY16 := Aside0.mk hy16; clear hy16; replace q16 := eq_true q16; have p250 : 0 ≤ (x3_2 : Int) := of_decide_eq_true z3_; have q250 : x3_2 < (l0.length : Int) := of_decide_eq_true z3_; obtain ⟨ad250, e250, hx250_0, hx250_1, hx250_2, hx250_3, hx250_4⟩ := at_T24 HR0.out x3_2 p250 q250; obtain rfl : ad244 = ad250 := (by injection e250); replace hx250_0 := hbc_ HB.out hx250_0; replace hx250_1 := hbc_ HB.out hx250_1; replace hx250_2 := hbc_ HB.out hx250_2; replace hx250_3 := hbc_ HB.out hx250_3; replace hx250_4 := hbc_ HB.out hx250_4; replace p250 := eq_true p250; replace q250 := eq_true q250) | (go_at_call 34; (with_reducible refine (formeref10_Index.calls k2 _ _ y246 ((rd_T24 l0 x3_2).f0) t251 _ ?side1 ?side2 A11.out).mono ?_); (case side1 => exact z27_); (case side2 => exact HC249.out); rintro e w' ⟨rfl, ⟨nd, rfl⟩⟩; (try first | exact ⟨rfl, _, World.drewN_drewN _ _ _⟩ | exact ⟨rfl, _, Eq.trans (World.drewN_drewN _ _ _) (congrArg (World.drewN _) (Nat.add_assoc _ _ _))⟩)))
         repeat (go_quiet (first | (go_at_call 35; (with_reducible refine (formeref10_Node.calls k2 ((rd_T24 l0 x3_2).f0) ((rd_T24 l0 x3_2).f1) ((rd_T24 l0 x3_2).f2) ((rd_T24 l0 x3_2).f3) ((rd_T24 l0 x3_2).f4) true _ A7.out).mono ?_); rintro e w15 ⟨rfl, hb⟩; have n0_ := Aside0.mk (below_step z1_ hb); clear HB; have HB := n0_; clear n0_; (try clear hb); (try clear hb2); (try clear hk); (try clear hi); have q16 : (x3_2 : Int) ≤ ((l0.length : Int) : Int) := of_decide_eq_true z3_; obtain ⟨i016, hi016, _, hsz16, _⟩ := info_parts info24; have hroom16 : l0.length ≤ c0 := HC0.out; have hC16 : Kd.C k24 _ (some ad244) l0.length l0 := HR0.out; have hcut16 := cut_to (P := Try.prog) 22 24 .i64 Try.underlying22 hi016 (some ad244) l0.length c0 x3_2 (of_decide_eq_true z3_) q16 hroom16; have hr16 := Kd.C_take (m := (x3_2 : Int).toNat) hC16 (by omega); have hy16 : y246.length = (x3_2 : Int).toNat := (by rw [Ny246.out, List.length_take]; omega); rw [← Ny246.out] at hr16; rw [← hy16] at hcut16; have HR249 := Aside0.mk hr16; have HC249 := Aside0.mk (show y246.length ≤ c0 from by omega); clear hr16 hC16 hroom16 hi016 hsz16; have KY16 := Aside0.mk hy16; clear hy16; replace q16 := eq_true q16; have p250 : 0 ≤ (x3_2 : Int) := of_decide_eq_true z3_; have q250 : x3_2 < (l0.length : Int) := of_decide_eq_true z3_; obtain ⟨ad250, e250, hx250_0, hx250_1, hx250_2, hx250_3, hx250_4⟩ := at_T24 HR0.out x3_2 p250 q250; obtain rfl : ad244 = ad250 := (by injection e250); replace hx250_0 := hbc_ HB.out hx250_0; replace hx250_1 := hbc_ HB.out hx250_1; replace hx250_2 := hbc_ HB.out hx250_2; replace hx250_3 := hbc_ HB.out hx250_3; replace hx250_4 := hbc_ HB.out hx250_4; replace p250 := eq_true p250; replace q250 := eq_true q250) | (go_at_call 34; (with_reducible refine (formeref10_Index.calls k2 _ _ y246 ((rd_T24 l0 x3_2).f0) t251 _ ?side1 ?side2 A11.out).mono ?_); (case side1 => exact z27_); (case side2 => exact HC249.out); rintro e w' ⟨rfl, ⟨nd, rfl⟩⟩; (try first | exact ⟨rfl, _, World.drewN_drewN _ _ _⟩ | exact ⟨rfl, _, Eq.trans (World.drewN_drewN _ _ _) (congrArg (World.drewN _) (Nat.add_assoc _ _ _))⟩))); try go_wp2_with (first | (go_at_call 35; (with_reducible refine (formeref10_Node.calls k2 ((rd_T24 l0 x3_2).f0) ((rd_T24 l0 x3_2).f1) ((rd_T24 l0 x3_2).f2) ((rd_T24 l0 x3_2).f3) ((rd_T24 l0 x3_2).f4) true _ A7.out).mono ?_); rintro e w15 ⟨rfl, hb⟩; have n0_ := Aside0.mk (below_step z1_ hb); clear HB; have HB := n0_; clear n0_; (try clear hb); (try clear hb2); (try clear hk); (try clear hi); have q16 : (x3_2 : Int) ≤ ((l0.length : Int) : Int) := of_decide_eq_true z3_; obtain ⟨i016, hi016, _, hsz16, _⟩ := info_parts info24; have hroom16 : l0.length ≤ c0 := HC0.out; have hC16 : Kd.C k24 _ (some ad244) l0.length l0 := HR0.out; have hcut16 := cut_to (P := Try.prog) 22 24 .i64 Try.underlying22 hi016 (some ad244) l0.length c0 x3_2 (of_decide_eq_true z3_) q16 hroom16; have hr16 := Kd.C_take (m := (x3_2 : Int).toNat) hC16 (by omega); have hy16 : y246.length = (x3_2 : Int).toNat := (by rw [Ny246.out, List.length_take]; omega); rw [← Ny246.out] at hr16; rw [← hy16] at hcut16; have HR249 := Aside0.mk hr16; have HC249 := Aside0.mk (show y246.length ≤ c0 from by omega); clear hr16 hC16 hroom16 hi016 hsz16; have KY16 := Aside0.mk hy16; clear hy16; replace q16 := eq_true q16; have p250 : 0 ≤ (x3_2 : Int) := of_decide_eq_true z3_; have q250 : x3_2 < (l0.length : Int) := of_decide_eq_true z3_; obtain ⟨ad250, e250, hx250_0, hx250_1, hx250_2, hx250_3, hx250_4⟩ := at_T24 HR0.out x3_2 p250 q250; obtain rfl : ad244 = ad250 := (by injection e250); replace hx250_0 := hbc_ HB.out hx250_0; replace hx250_1 := hbc_ HB.out hx250_1; replace hx250_2 := hbc_ HB.out hx250_2; replace hx250_3 := hbc_ HB.out hx250_3; replace hx250_4 := hbc_ HB.out hx250_4; replace p250 := eq_true p250; replace q250 := eq_true q250) | (go_at_call 34; (with_reducible refine (formeref10_Index.calls k2 _ _ y246 ((rd_T24 l0 x3_2).f0) t251 _ ?side1 ?side2 A11.out).mono ?_); (case side1 => exact z27_); (case side2 => exact HC249.out); rintro e w' ⟨rfl, ⟨nd, rfl⟩⟩; (try first | exact ⟨rfl, _, World.drewN_drewN _ _ _⟩ | exact ⟨rfl, _, Eq.trans (World.drewN_drewN _ _ _) (congrArg (World.drewN _) (Nat.add_assoc _ _ _))⟩))))
         go_roundg k2
         case measure => have := HJ1.out; have := HK2.out; omega
         case rel => exact ⟨(wrap64 (x3_2 + 1)), z8_, H', ⟨by have := HJ1.out; have := HK2.out; omega⟩, ⟨by repeat (first | (with_reducible first | exact HB.out | apply below_alloc | apply pw_below_drewN | apply below_drew1) | exact HB.out)⟩⟩
       ·replace c8 := Bool.eq_false_iff.mpr c8
        subst c8
        have H1 : (some false) = some r := by rw [if_neg (show ¬ (false = true) by decide)] at H; exact H
        clear H
        have H := H1
        clear H1
        obtain rfl := Option.some.inj H
        have p244 : 0 ≤ (x3_2 : Int) := of_decide_eq_true z3_
        have q244 : x3_2 < (l0.length : Int) := of_decide_eq_true z3_
        obtain ⟨ad244, e244, hx244_0, hx244_1, hx244_2, hx244_3, hx244_4⟩ := at_T24 HR0.out x3_2 p244 q244
        cases e244
        replace hx244_0 := hbc_ HB.out hx244_0
        replace hx244_1 := hbc_ HB.out hx244_1
        replace hx244_2 := hbc_ HB.out hx244_2
        replace hx244_3 := hbc_ HB.out hx244_3
        replace hx244_4 := hbc_ HB.out hx244_4
        replace p244 := eq_true p244
        replace q244 := eq_true q244
        go_wp2_with (first | (go_at_call 35; (with_reducible refine (formeref10_Node.calls k2 ((rd_T24 l0 x3_2).f0) ((rd_T24 l0 x3_2).f1) ((rd_T24 l0 x3_2).f2) ((rd_T24 l0 x3_2).f3) ((rd_T24 l0 x3_2).f4) false _ A7.out).mono ?_); rintro e w17 ⟨rfl, hb⟩; have n0_ := Aside0.mk (below_step z1_ hb); clear HB; have HB := n0_; clear n0_; (try clear hb); (try clear hb2); (try clear hk); (try clear hi)))
        repeat (go_quiet (first | (go_at_call 35; (with_reducible refine (formeref10_Node.calls k2 ((rd_T24 l0 x3_2).f0) ((rd_T24 l0 x3_2).f1) ((rd_T24 l0 x3_2).f2) ((rd_T24 l0 x3_2).f3) ((rd_T24 l0 x3_2).f4) false _ A7.out).mono ?_); rintro e w17 ⟨rfl, hb⟩; have n0_ := Aside0.mk (below_step z1_ hb); clear HB; have HB := n0_; clear n0_; (try clear hb); (try clear hb2); (try clear hk); (try clear hi))); try go_wp2_with (first | (go_at_call 35; (with_reducible refine (formeref10_Node.calls k2 ((rd_T24 l0 x3_2).f0) ((rd_T24 l0 x3_2).f1) ((rd_T24 l0 x3_2).f2) ((rd_T24 l0 x3_2).f3) ((rd_T24 l0 x3_2).f4) false _ A7.out).mono ?_); rintro e w17 ⟨rfl, hb⟩; have n0_ := Aside0.mk (below_step z1_ hb); clear HB; have HB := n0_; clear n0_; (try clear hb); (try clear hb2); (try clear hk); (try clear hi))))
        go_ret
        exact ⟨by first | rfl | (simp [errW_none, errW_some] <;> rfl) | (simp [*, errW_none, errW_some] <;> rfl), by repeat (first | (with_reducible first | exact HB.out | apply below_alloc | apply pw_below_drewN | apply below_drew1) | exact HB.out)⟩
      ·rw [if_neg c5] at H
       have c5b0 : decide (x3_2 < (l0.length : Int)) = false := decide_eq_false c5
       clear c5
       replace H := Option.bind_eq_some_iff.mp H
       obtain ⟨⟨t252, t253⟩, A180, H⟩ := H
       try dsimp only at H
       have A18 := Aside0.mk A180
       clear A180
       have H' := Aside0.mk H
       clear H
       go_wp2_with (first | (go_at_call 36; (with_reducible refine (formeref10_depths.calls k2 _ _ l0 t252 t253 _ ?side1 ?side2 A18.out).mono ?_); (case side1 => exact z10_); (case side2 => exact HC0.out); rintro e w19 ⟨v254, rfl, ho0, hb⟩; have n0_ := Aside0.mk (Kd.R_lower ho0 (below_size z1_)); have n1_ := Aside0.mk (below_step z1_ hb); clear HB; have HO255 := n0_; have HB := n1_; clear n0_ n1_; (try clear hb); (try clear hb2); (try clear hk); (try clear hi); (try clear ho0)))
       repeat (go_quiet (first | (go_at_call 36; (with_reducible refine (formeref10_depths.calls k2 _ _ l0 t252 t253 _ ?side1 ?side2 A18.out).mono ?_); (case side1 => exact z10_); (case side2 => exact HC0.out); rintro e w19 ⟨v254, rfl, ho0, hb⟩; have n0_ := Aside0.mk (Kd.R_lower ho0 (below_size z1_)); have n1_ := Aside0.mk (below_step z1_ hb); clear HB; have HO255 := n0_; have HB := n1_; clear n0_ n1_; (try clear hb); (try clear hb2); (try clear hk); (try clear hi); (try clear ho0))); try go_wp2_with (first | (go_at_call 36; (with_reducible refine (formeref10_depths.calls k2 _ _ l0 t252 t253 _ ?side1 ?side2 A18.out).mono ?_); (case side1 => exact z10_); (case side2 => exact HC0.out); rintro e w19 ⟨v254, rfl, ho0, hb⟩; have n0_ := Aside0.mk (Kd.R_lower ho0 (below_size z1_)); have n1_ := Aside0.mk (below_step z1_ hb); clear HB; have HO255 := n0_; have HB := n1_; clear n0_ n1_; (try clear hb); (try clear hb2); (try clear hk); (try clear hi); (try clear ho0))))
       go_loopg [7] k2 (fun kq v7 w' => ∃ (x7_3 : Int), v7 = .int .i64 x7_3 ∧ Aside0 (formeref10_Valid.l1 kq t252 t253 x7_3 = some r) ∧ Aside0 (kq ≤ k2) ∧ Aside0 (Kd.R (Kd.int .i64) 3 w' w.heap.size (fun _ => True) v254 t252) ∧ Aside0 (Below w.heap.size w w'))
       case atStart => exact ⟨(0), z8_, H', ⟨Nat.le_refl _⟩, ⟨by (with_reducible repeat (first | apply Kd.R_alloc | apply Kd.R_drewN | apply Kd.R_drew)); exact HO255.out⟩, ⟨by repeat (first | (with_reducible first | exact HB.out | apply below_alloc | apply pw_below_drewN | apply below_drew1) | exact HB.out)⟩⟩
       case round =>
        clear H'
        try clear c1
        try clear q1
        try clear p2
        try clear q2
        try clear hx2
        try clear c3
        try clear c3b0
        try clear c3b1
        try clear c4
        try clear c5
        try clear c5b0
        try clear c6
        try clear c6b0
        try clear p6
        try clear c8
        try clear c9
        try clear c9b0
        try clear c10
        try clear c10b0
        try clear c10b1
        try clear c12
        try clear c12b0
        try clear c14
        try clear q14
        try clear q16
        try clear hx244_0
        try clear hx244_1
        try clear hx244_2
        try clear hx244_3
        try clear hx244_4
        try clear hx250_0
        try clear hx250_1
        try clear hx250_2
        try clear hx250_3
        try clear hx250_4
        try clear p2
        try clear p244
        try clear p250
        try clear q14
        try clear q16
        try clear q244
        try clear q250
        obtain ⟨x7_3, rfl, HA, HK3, HO_5, HB⟩ := hrel
        cases gk with
        | zero => exact absurd HA.out (by simp [formeref10_Valid.l1])
        | succ k3 =>
         have H := HA.out
         clear HA
         simp only [formeref10_Valid.l1] at H
         by_cases c20 : x7_3 < (t252.length : Int)
         ·rw [if_pos c20] at H
          have c20b0 : decide (x7_3 < (t252.length : Int)) = true := decide_eq_true c20
          clear c20
          by_cases c21 : 0 ≤ x7_3
          rotate_left
          ·rw [if_neg c21] at H; exact absurd H (by simp)
          rw [if_pos c21] at H
          have c21b0 : decide (0 ≤ x7_3) = true := decide_eq_true c21
          clear c21
          by_cases c22 : (rd t252 x7_3) > 30
          ·rw [if_pos c22] at H
           have c22b0 : decide (30 < (rd t252 x7_3)) = true := decide_eq_true c22
           clear c22
           obtain rfl := Option.some.inj H
           obtain ⟨Ao23, co23, eo23⟩ := Kd.R_slice HO_5.out
           subst eo23
           have p256 : 0 ≤ (x7_3 : Int) := of_decide_eq_true z3_
           have q256 : x7_3 < (t252.length : Int) := of_decide_eq_true z3_
           obtain ⟨ad256, e256, hx256_0⟩ := Kd.at_int (Kd.R_reads' HO_5.out).2.2 x7_3 p256 q256
           cases e256
           replace p256 := eq_true p256
           replace q256 := eq_true q256
           go_wp2
           repeat (go_quiet (fail); try go_wp2)
           go_ret
           exact ⟨by first | rfl | (simp [errW_none, errW_some] <;> rfl) | (simp [*, errW_none, errW_some] <;> rfl), by repeat (first | (with_reducible first | exact HB.out | apply below_alloc | apply pw_below_drewN | apply below_drew1) | exact HB.out)⟩
          ·rw [if_neg c22] at H
           have c22b0 : decide (30 < (rd t252 x7_3)) = false := decide_eq_false c22
           clear c22
           have H' := Aside0.mk H
           clear H
           obtain ⟨Ao24, co24, eo24⟩ := Kd.R_slice HO_5.out
           subst eo24
           have p256 : 0 ≤ (x7_3 : Int) := of_decide_eq_true z3_
           have q256 : x7_3 < (t252.length : Int) := of_decide_eq_true z3_
           obtain ⟨ad256, e256, hx256_0⟩ := Kd.at_int (Kd.R_reads' HO_5.out).2.2 x7_3 p256 q256
           cases e256
           replace p256 := eq_true p256
           replace q256 := eq_true q256
           go_wp2
           repeat (go_quiet (fail); try go_wp2)
           go_roundg k3
           case measure => have := HJ1.out; have := HK2.out; have := HK3.out; omega
           case rel => exact ⟨(wrap64 (x7_3 + 1)), z8_, H', ⟨by have := HJ1.out; have := HK2.out; have := HK3.out; omega⟩, ⟨by (with_reducible repeat (first | apply Kd.R_alloc | apply Kd.R_drewN | apply Kd.R_drew)); exact HO_5.out⟩, ⟨by repeat (first | (with_reducible first | exact HB.out | apply below_alloc | apply pw_below_drewN | apply below_drew1) | exact HB.out)⟩⟩
         ·rw [if_neg c20] at H
          have c20b0 : decide (x7_3 < (t252.length : Int)) = false := decide_eq_false c20
          clear c20
          obtain rfl := Option.some.inj H
          obtain ⟨Ao25, co25, eo25⟩ := Kd.R_slice HO_5.out
          subst eo25
          go_wp2
          repeat (go_quiet (fail); try go_wp2)
          go_ret
          exact ⟨by first | rfl | (simp [errW_none, errW_some] <;> rfl) | (simp [*, errW_none, errW_some] <;> rfl), by repeat (first | (with_reducible first | exact HB.out | apply below_alloc | apply pw_below_drewN | apply below_drew1) | exact HB.out)⟩
end Go.Proofs.Ytpafhhgoldenoaa.P
end

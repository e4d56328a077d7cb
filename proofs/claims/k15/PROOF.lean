import PyProof.Rows.All
import Wide.All
import OpenK.AllK
import Wide.FinOn
import PyProof.EqAt
import PyProof.EqKinds
import PyProof.TupleCall
import PySem.Challenge.RW_arrowturns_k15_whole_rows_and_rings
import HandS.ForMost
import HandS.Evl
import HandS.Exc
import HandS.ExcOwn
import HandS.TryOnly
import HandS.WordsExc
import HandS.IsInst
import HandS.ExcIs
import HandS.HotCalls
import HandS.Wide
import HandS.Zip
import HandS.Conv
import HandS.More
import HandS.Style
import HandS.Deep
import HandS.Walk
import KE.DatumOrd
import KE.DataCmp
import KE.DataMinMax
import KE.SortData
import KE.KTupSum
import KE.SortCalls
import KE.KDictSum
import KE.KDictCopyH
import KE.KDictKeyed
import KE.KeyNested
set_option Elab.async false
set_option linter.all false
set_option maxRecDepth 100000
set_option maxHeartbeats 4000000

/-! ## the layer of these proofs: lists of lists, what a reading tells of them -/
namespace AT
open PySem PySem.Spec PyProof.Rows L2 Evl
abbrev St := L2.St
abbrev Frag := PySem.W.Frag

theorem bfF {p : Prop} (h : ¬ p) : (false = true ↔ p) := ⟨fun z => (Bool.false_ne_true z).elim, fun z => (h z).elim⟩
theorem bfT {p : Prop} (h : p) : (true = true ↔ p) := ⟨fun _ => h, fun _ => rfl⟩
/-- whether p holds -/
noncomputable def dec (p : Prop) : Bool := @decide p (Classical.propDecidable p)
theorem dec_eq {b : Bool} {p : Prop} (h : b = true ↔ p) : b = dec p := by
  unfold dec
  cases b with
  | true => exact (@decide_eq_true p (Classical.propDecidable p) (h.mp rfl)).symm
  | false => exact (@decide_eq_false p (Classical.propDecidable p) fun z => Bool.false_ne_true (h.mpr z)).symm
theorem dec_true {p : Prop} (h : p) : dec p = true := (dec_eq (bfT h)).symm
theorem dec_false {p : Prop} (h : ¬ p) : dec p = false := (dec_eq (bfF h)).symm
theorem of_dec {p : Prop} (h : dec p = true) : p := Classical.byContradiction fun z => by
  rw [dec_false z] at h
  exact Bool.false_ne_true h
theorem of_dec_f {p : Prop} (h : dec p = false) : ¬ p := fun z => by
  rw [dec_true z] at h
  exact Bool.noConfusion h
/-! ### lists of ints, of lists of ints -/
def LI (K : Frag) (H : Hp) (a : Addr) (xs : List Int) : Prop := SqL K H a (xs.map V.int)
def LLI (K : Frag) (H : Hp) (a : Addr) (M : List (List Int)) : Prop := ∃ as : List Addr, SqL K H a (as.map V.ref) ∧ Paired (fun x r => LI K H x r) as M
/-- of our own making: behind H0 -/
def OLI (H0 H : Hp) (a : Addr) (xs : List Int) : Prop := H0 a = none ∧ H a = some (.lst (xs.map V.int))
def OLLI (H0 H : Hp) (a : Addr) (M : List (List Int)) : Prop := ∃ as : List Addr, H0 a = none ∧ H a = some (.lst (as.map V.ref)) ∧ (a :: as).Nodup ∧ Paired (fun x r => OLI H0 H x r) as M

theorem paired_mono {α β : Type} {F G : α → β → Prop} : ∀ {l₁ : List α} {l₂ : List β}, Paired F l₁ l₂ → (∀ a b, F a b → G a b) → Paired G l₁ l₂
  | _, _, .nil, _ => .nil
  | _, _, .cons r t, f => .cons (f _ _ r) (paired_mono t f)
theorem paired_mem_mono {α β : Type} {F G : α → β → Prop} : ∀ {l₁ : List α} {l₂ : List β}, Paired F l₁ l₂ → (∀ a b, a ∈ l₁ → F a b → G a b) → Paired G l₁ l₂
  | _, _, .nil, _ => .nil
  | _, _, .cons r t, f => .cons (f _ _ List.mem_cons_self r) (paired_mem_mono t fun a b h => f a b (List.mem_cons_of_mem _ h))
theorem paired_get {α β : Type} {F : α → β → Prop} : ∀ {l₁ : List α} {l₂ : List β} {i : Nat} {y : β}, Paired F l₁ l₂ → l₂[i]? = some y → ∃ x, l₁[i]? = some x ∧ F x y
  | _, _, _, _, .nil, e => by simp at e
  | _, _, 0, _, .cons r _, e => by simp at e; subst e; exact ⟨_, rfl, r⟩
  | _, _, i + 1, y, .cons _ t, e => by
    obtain ⟨u, h1, h2⟩ := paired_get (i := i) (y := y) t (by simpa using e)
    exact ⟨u, by simpa using h1, h2⟩
theorem paired_getL {α β : Type} {F : α → β → Prop} : ∀ {l₁ : List α} {l₂ : List β} {i : Nat} {x : α}, Paired F l₁ l₂ → l₁[i]? = some x → ∃ y, l₂[i]? = some y ∧ F x y
  | _, _, _, _, .nil, e => by simp at e
  | _, _, 0, _, .cons r _, e => by simp at e; subst e; exact ⟨_, rfl, r⟩
  | _, _, i + 1, y, .cons _ t, e => by
    obtain ⟨u, h1, h2⟩ := paired_getL (i := i) (x := y) t (by simpa using e)
    exact ⟨u, by simpa using h1, h2⟩
theorem paired_append {α β : Type} {F : α → β → Prop} : ∀ {l₁ k₁ : List α} {l₂ k₂ : List β}, Paired F l₁ l₂ → Paired F k₁ k₂ → Paired F (l₁ ++ k₁) (l₂ ++ k₂)
  | _, _, _, _, .nil, h => h
  | _, _, _, _, .cons r t, h => .cons r (paired_append t h)
theorem paired_mem {α β : Type} {F : α → β → Prop} : ∀ {l₁ : List α} {l₂ : List β} {x : α}, Paired F l₁ l₂ → x ∈ l₁ → ∃ y, y ∈ l₂ ∧ F x y
  | _, _, _, .nil, e => by cases e
  | _, _, _, .cons r t, e => by
    rcases List.mem_cons.mp e with rfl | e
    · exact ⟨_, List.mem_cons_self, r⟩
    · obtain ⟨y, h1, h2⟩ := paired_mem t e
      exact ⟨y, List.mem_cons_of_mem _ h1, h2⟩
theorem paired_of {α β : Type} {F : α → β → Prop} : ∀ {l₁ : List α} {l₂ : List β}, l₁.length = l₂.length → (∀ (i : Nat) x y, l₁[i]? = some x → l₂[i]? = some y → F x y) → Paired F l₁ l₂
  | [], [], _, _ => .nil
  | [], _ :: _, h, _ => by simp at h
  | _ :: _, [], h, _ => by simp at h
  | a :: l₁, b :: l₂, h, f => .cons (f 0 a b rfl rfl) (paired_of (by simpa using h) fun i x y h1 h2 => f (i + 1) x y (by simpa using h1) (by simpa using h2))
theorem paired_set {α β : Type} {F : α → β → Prop} {x : α} {y : β} (r : F x y) : ∀ {l₁ : List α} {l₂ : List β} (i : Nat), Paired F l₁ l₂ → Paired F (l₁.set i x) (l₂.set i y)
  | _, _, _, .nil => .nil
  | _, _, 0, .cons _ t => .cons r t
  | _, _, i + 1, .cons q t => .cons q (paired_set r i t)
theorem paired_drop {α β : Type} {F : α → β → Prop} : ∀ {l₁ : List α} {l₂ : List β} (n : Nat), Paired F l₁ l₂ → Paired F (l₁.drop n) (l₂.drop n)
  | _, _, 0, r => r
  | _, _, _ + 1, .nil => .nil
  | _, _, n + 1, .cons _ t => paired_drop n t
theorem paired_dropLast {α β : Type} {F : α → β → Prop} : ∀ {l₁ : List α} {l₂ : List β}, Paired F l₁ l₂ → Paired F l₁.dropLast l₂.dropLast
  | _, _, .nil => .nil
  | _, _, .cons _ .nil => .nil
  | _, _, .cons r (.cons q t) => .cons r (paired_dropLast (.cons q t))
theorem paired_map {α β γ δ : Type} {F : γ → δ → Prop} {f : α → γ} {g : β → δ} {G : α → β → Prop} (h : ∀ a b, G a b → F (f a) (g b)) : ∀ {l₁ : List α} {l₂ : List β}, Paired G l₁ l₂ → Paired F (l₁.map f) (l₂.map g)
  | _, _, .nil => .nil
  | _, _, .cons r t => .cons (h _ _ r) (paired_map h t)

section
variable {K : Frag} {H H0 H1 H' : Hp} {a p r : Addr} {M : List (List Int)} {xs : List Int}
theorem LI.mono (e : Ex H H') (h : LI K H a xs) : LI K H' a xs := ex_l e h
theorem LLI.mono (e : Ex H H') (h : LLI K H a M) : LLI K H' a M := by
  obtain ⟨as, h1, h2⟩ := h
  exact ⟨as, ex_l e h1, paired_mono h2 fun _ _ q => q.mono e⟩
theorem OLI.li (h : OLI H0 H a xs) : LI K H a xs := sq_of h.2
theorem OLLI.lli (h : OLLI H0 H a M) : LLI K H a M := by
  obtain ⟨as, _, h1, _, h2⟩ := h
  exact ⟨as, sq_of h1, paired_mono h2 fun _ _ q => q.li⟩
theorem OLI.mono (e : Ex H H') (h : OLI H0 H a xs) : OLI H0 H' a xs := ⟨h.1, e _ _ h.2⟩
theorem OLLI.mono (e : Ex H H') (h : OLLI H0 H a M) : OLLI H0 H' a M := by
  obtain ⟨as, h0, h1, hn, h2⟩ := h
  exact ⟨as, h0, e _ _ h1, hn, paired_mono h2 fun _ _ q => q.mono e⟩
/-- fresh ahead of more is fresh ahead of less -/
theorem OLI.back (e : Ex H0 H1) (h : OLI H1 H a xs) : OLI H0 H a xs := ⟨fresh_back e h.1, h.2⟩
theorem OLLI.back (e : Ex H0 H1) (h : OLLI H1 H a M) : OLLI H0 H a M := by
  obtain ⟨as, h0, h1, hn, h2⟩ := h
  exact ⟨as, fresh_back e h0, h1, hn, paired_mono h2 fun _ _ q => q.back e⟩
theorem OLLI.fresh (h : OLLI H0 H a M) : H0 a = none := by
  obtain ⟨as, h0, _⟩ := h
  exact h0
theorem OLLI.nil (h0 : H0 a = none) (h : H a = some (.lst [])) : OLLI H0 H a [] := ⟨[], h0, h, by simp, .nil⟩
/-- a row made behind Hb goes to the end -/
theorem OLLI.push {Hb Hc : Hp} {row : List Int} (h : OLLI H0 Hb p M) (e0 : Ex H0 Hb) (e : Ex Hb Hc) (hr : Hb r = none) (hrow : Hc r = some (.lst (row.map V.int))) :
    ∃ vs : List V, Hc p = some (.lst vs) ∧ vs.length = M.length ∧ OLLI H0 (upd Hc p (.lst (vs ++ [.ref r]))) p (M ++ [row]) ∧ Ex H0 (upd Hc p (.lst (vs ++ [.ref r]))) := by
  obtain ⟨as, h0, h1, hn, h2⟩ := h
  have hpr : p ≠ r := ne_of_none h1 hr
  have hnr : r ∉ as := fun hm => by
    obtain ⟨y, _, q⟩ := paired_mem h2 hm
    have := q.2
    rw [hr] at this; cases this
  rw [List.nodup_cons] at hn
  refine ⟨as.map V.ref, e _ _ h1, by rw [List.length_map, h2.length], ⟨as ++ [r], h0, ?_, ?_, paired_append (paired_mem_mono h2 fun x y hx q => ⟨q.1, ?_⟩) (.cons ⟨fresh_back e0 hr, ?_⟩ .nil)⟩, Ex.mut (e0.trans e) h0⟩
  · rw [upd_same, List.map_append]; rfl
  · rw [List.nodup_cons]
    refine ⟨fun hm => ?_, ?_⟩
    · rcases List.mem_append.mp hm with hm | hm
      · exact hn.1 hm
      · exact hpr (by simpa using hm)
    · rw [List.nodup_append]
      exact ⟨hn.2, by simp, fun x hx y hy => by
        have : y = r := by simpa using hy
        subst this
        exact fun z => hnr (z ▸ hx)⟩
  · rw [upd_ne (fun z : x = p => hn.1 (z ▸ hx))]; exact e _ _ q.2
  · rw [upd_ne hpr.symm]; exact hrow
end

/-! ### forms: n boxes, f their numbers -/
def Fm (n : Nat) (f : Nat → Nat → Int) : List (List Int) := (List.range n).map fun i => (List.range n).map (f i)
theorem range_get {n i : Nat} (h : i < n) : (List.range n)[i]? = some i := by rw [List.getElem?_range h]
theorem mapr_get {α : Type} {n i : Nat} {f : Nat → α} (h : i < n) : ((List.range n).map f)[i]? = some (f i) := by rw [List.getElem?_map, range_get h]; rfl
theorem fm_get {n i : Nat} {f : Nat → Nat → Int} (h : i < n) : (Fm n f)[i]? = some ((List.range n).map (f i)) := mapr_get h
theorem fm_len {n : Nat} {f : Nat → Nat → Int} : (Fm n f).length = n := by unfold Fm; rw [List.length_map, List.length_range]
theorem mapr_ext {α : Type} {n : Nat} {f g : Nat → α} (h : ∀ i, i < n → f i = g i) : (List.range n).map f = (List.range n).map g := List.map_congr_left fun i hi => h i (List.mem_range.mp hi)
theorem fm_ext {n : Nat} {f g : Nat → Nat → Int} (h : ∀ i j, i < n → j < n → f i j = g i j) : Fm n f = Fm n g := mapr_ext fun i hi => mapr_ext fun j hj => h i j hi hj
theorem mapr_inj {α : Type} {n m : Nat} {f g : Nat → α} (h : (List.range n).map f = (List.range m).map g) : n = m ∧ ∀ i, i < n → f i = g i := by
  have e : n = m := by simpa using congrArg List.length h
  subst e
  refine ⟨rfl, fun i hi => ?_⟩
  have := congrArg (·[i]?) h
  simp only [mapr_get hi] at this
  exact Option.some.inj this
theorem fm_inj {n m : Nat} {f g : Nat → Nat → Int} (h : Fm n f = Fm m g) : n = m ∧ ∀ i j, i < n → j < n → f i j = g i j := by
  obtain ⟨e, q⟩ := mapr_inj h
  exact ⟨e, fun i j hi hj => (mapr_inj (q i hi)).2 j hj⟩

section
variable {K : Frag} {σ : St} {H H0 H1 H' : Hp} {ta tb te ti tj : TE} {a p r : Addr} {M : List (List Int)} {xs : List Int} {x y z v : V}
theorem LLI.row (h : LLI K H a M) {i : Nat} {row : List Int} (e : M[i]? = some row) : ∃ (as : List Addr) (x : Addr), SqL K H a (as.map V.ref) ∧ as.length = M.length ∧ as[i]? = some x ∧ LI K H x row := by
  obtain ⟨as, h1, h2⟩ := h
  obtain ⟨x, e1, q⟩ := paired_get h2 e
  exact ⟨as, x, h1, h2.length, e1, q⟩
theorem atI_n {α : Type} {xs : List α} {i : Nat} {v : α} (h : xs[i]? = some v) : atI xs (i : Int) = some v := by
  unfold atI
  rw [ixN_nat (List.getElem?_eq_some_iff.mp h).1]
  exact h
theorem LI.at {i : Nat} {v : Int} (h : LI K H a xs) (e : xs[i]? = some v) : RV (rIxL K) (.ref a) (.int (i : Int)) H (.int v) := rv_ixL h (atI_n (by rw [List.getElem?_map, e]; rfl))
theorem ev_item {i : Nat} {v : Int} (ha : Ev ta σ H (.ref a)) (hi : Ev ti σ H (.int (i : Int))) (h : LI K H a xs) (e : xs[i]? = some v) : Ev (tOp (rIxL K) ta ti) σ H (.int v) := ev_op ha hi (h.at e)
theorem ev_cell {i j : Nat} {row : List Int} {v : Int} (ha : Ev ta σ H (.ref a)) (hi : Ev ti σ H (.int (i : Int))) (hj : Ev tj σ H (.int (j : Int))) (h : LLI K H a M) (e1 : M[i]? = some row) (e2 : row[j]? = some v) :
    Ev (tOp (rIxL K) (tOp (rIxL K) ta ti) tj) σ H (.int v) := by
  obtain ⟨as, x, h1, _, h3, h4⟩ := h.row e1
  exact ev_op (ev_op ha hi (rv_ixL h1 (atI_n (by rw [List.getElem?_map, h3]; rfl)))) hj (h4.at e2)
theorem ev_fm {n i j : Nat} {f : Nat → Nat → Int} (ha : Ev ta σ H (.ref a)) (hi : Ev ti σ H (.int (i : Int))) (hj : Ev tj σ H (.int (j : Int))) (h : LLI K H a (Fm n f)) (e1 : i < n) (e2 : j < n) :
    Ev (tOp (rIxL K) (tOp (rIxL K) ta ti) tj) σ H (.int (f i j)) := ev_cell ha hi hj h (fm_get e1) (mapr_get e2)
theorem ev_mod {i j : Int} (ha : Ev ta σ H (.int i)) (hb : Ev tb σ H (.int j)) (hj : 0 < j) : Ev (tOp (rI (fun _ j => j ≠ 0) fun i j => .int (i.fmod j)) ta tb) σ H (.int (i % j)) :=
  ev_op ha hb (by rw [← Int.fmod_eq_emod_of_nonneg i (Int.le_of_lt hj)]; exact rv_I (by omega))
theorem ev_div {i j : Int} (ha : Ev ta σ H (.int i)) (hb : Ev tb σ H (.int j)) (hj : 0 < j) (h2 : j < 1073741824) : Ev (tOp (rI CDivN fun i j => .int (i.fdiv j)) ta tb) σ H (.int (i / j)) :=
  ev_op ha hb (by rw [← Int.fdiv_eq_ediv_of_nonneg i (Int.le_of_lt hj)]; exact rv_I ⟨by omega, by omega⟩)
theorem ev_len1 {vs : List V} {r : List V → Hp → VK → Prop} (ha : Ev ta σ H (.ref a)) (h : SqL K H a vs) (hr : r = fun xs H Q => ∃ p ys, xs = [.ref p] ∧ (SqL K H p ys ∨ SqT K H p ys) ∧ Q (.int ys.length) H) : Ev (tCB r (tCons ta tNil)) σ H (.int (vs.length : Int)) := by
  subst hr
  exact ev_len ha h
theorem ev_lenLLI (ha : Ev ta σ H (.ref a)) (h : LLI K H a M) : Ev (tCB (rLenS K) (tCons ta tNil)) σ H (.int (M.length : Int)) := by
  obtain ⟨as, h1, h2⟩ := h
  have e := ev_len ha h1
  rw [List.length_map, h2.length] at e
  exact e
theorem ev_lenFm {n : Nat} {f : Nat → Nat → Int} (ha : Ev ta σ H (.ref a)) (h : LLI K H a (Fm n f)) : Ev (tCB (rLenS K) (tCons ta tNil)) σ H (.int (n : Int)) := by
  have e := ev_lenLLI ha h
  rw [fm_len] at e
  exact e
theorem ev_lenLI (ha : Ev ta σ H (.ref a)) (h : LI K H a xs) : Ev (tCB (rLenS K) (tCons ta tNil)) σ H (.int (xs.length : Int)) := by
  have e := ev_len ha h
  rw [List.length_map] at e
  exact e
def rAbs : List V → Hp → VK → Prop := fun xs H Q => ∃ i, xs = [.int i] ∧ Q (.int (if i < 0 then -i else i)) H
theorem ev_abs {i : Int} (ha : Ev ta σ H (.int i)) : Ev (tCB rAbs (tCons ta tNil)) σ H (.int (if i < 0 then -i else i)) := fun H1 e Q q =>
  ha H1 e _ fun H2 e2 => ⟨i, rfl, q H2 e2⟩
/-- a call of a def whose promise is told by its value -/
theorem ev_cast {w : V} (h : Ev te σ H v) (e : v = w) : Ev te σ H w := e ▸ h
end

/-! ### what is new: relations of the heap ahead, the heap behind and the value -/
abbrev R3 := Hp → Hp → V → Prop
def Er (te : TE) (σ : St) (H : Hp) (R : R3) : Prop := ∀ H1, Ex H H1 → ∀ Q : VK, (∀ v H2, Ex H1 H2 → R H1 H2 v → Q v H2) → te σ H1 Q
/-- a new list of lists of ints -/
def RM (M : List (List Int)) : R3 := fun H1 H2 v => ∃ p, v = .ref p ∧ OLLI H1 H2 p M
def RL (xs : List Int) : R3 := fun H1 H2 v => ∃ p, v = .ref p ∧ OLI H1 H2 p xs
structure Mon (R : R3) : Prop where
  up : ∀ {H1 H2 H3 v}, Ex H2 H3 → R H1 H2 v → R H1 H3 v
  dn : ∀ {H0 H1 H2 v}, Ex H0 H1 → R H1 H2 v → R H0 H2 v
theorem mon_RM {M : List (List Int)} : Mon (RM M) := ⟨fun e ⟨p, h, q⟩ => ⟨p, h, q.mono e⟩, fun e ⟨p, h, q⟩ => ⟨p, h, q.back e⟩⟩
theorem mon_RL {xs : List Int} : Mon (RL xs) := ⟨fun e ⟨p, h, q⟩ => ⟨p, h, q.mono e⟩, fun e ⟨p, h, q⟩ => ⟨p, h, q.back e⟩⟩
section
variable {K : Frag} {σ : St} {H H0 H1 H' : Hp} {ta tb te ti tj : TE} {t : TT} {a p r : Addr} {M : List (List Int)} {xs : List Int} {x y z v : V} {R : R3} {D : Ends}
theorem Er.mono (e : Ex H H') (h : Er te σ H R) : Er te σ H' R := fun H1 a Q q => h H1 (e.trans a) Q q
theorem er_of_evl (h : EvL te σ H (xs.map V.int)) : Er te σ H (RL xs) := fun H1 e Q q => h H1 e Q fun p H2 hp e2 h2 => q _ H2 e2 ⟨p, rfl, hp, h2⟩
theorem evl_of_er (h : Er te σ H (RL xs)) : EvL te σ H (xs.map V.int) := fun H1 e Q q => h H1 e Q fun v H2 e2 ⟨p, hv, h1, h2⟩ => by subst hv; exact q p H2 h1 e2 h2
theorem sr_asg {i : Nat} (h : Er te σ H R) (k : ∀ v H1, Ex H H1 → R H H1 v → D.nx (σ.set i (some v)) H1) : tAsg te (gName i) D σ H := h H (Ex.refl H) _ k
theorem qr_asg {i : Nat} {tz : TS} (h : Er te σ H R) (k : ∀ v H1, Ex H H1 → R H H1 v → tz D (σ.set i (some v)) H1) : tSeq (tAsg te (gName i)) tz D σ H := sr_asg (D := { D with nx := tz D }) h k
theorem sr_ret (h : Er te σ H R) (k : ∀ v H1, Ex H H1 → R H H1 v → D.rt v H1) : tRet te D σ H := h H (Ex.refl H) _ k
/-- a promise of a new thing -/
def SpR (sp : Sp) (vs : List V) (H : Hp) (R : R3) : Prop := ∀ H1, Ex H H1 → ∀ Q : VK, (∀ v H2, Ex H1 H2 → R H1 H2 v → Q v H2) → ∀ E : XK, sp vs H1 Q E
theorem er_call {sp : Sp} {dvs vs : List V} {E : XK} {ta : TA} (mR : Mon R) (h : EvA ta σ H vs) (hs : SpR sp (vs ++ dvs) H R) : Er (tCall sp dvs E ta) σ H R := fun H1 e Q q =>
  h H1 e _ fun H2 e2 => hs H2 (e.trans e2) Q (fun v H3 e3 r => q v H3 (e2.trans e3) (mR.dn e2 r)) E

/-! ### comprehensions whose items are new -/
/-- R is not touched by a change of what was there ahead -/
structure Mon' (R : R3) : Prop extends Mon R where
  chg : ∀ {H1 H2 v Dl o}, H1 Dl ≠ none → R H1 H2 v → R H1 (upd H2 Dl o) v
theorem ne_fresh {H1 : Hp} {p Dl : Addr} (hd : H1 Dl ≠ none) (hp : H1 p = none) : p ≠ Dl := fun z => hd (z ▸ hp)
theorem mon'_RL {xs : List Int} : Mon' (RL xs) := { mon_RL with
  chg := fun hd ⟨p, h, q⟩ => ⟨p, h, q.1, by rw [upd_ne (ne_fresh hd q.1)]; exact q.2⟩ }
theorem mon'_RM {M : List (List Int)} : Mon' (RM M) := { mon_RM with
  chg := fun hd ⟨p, h, as, h0, h1, hn2, h2⟩ => ⟨p, h, as, h0, by rw [upd_ne (ne_fresh hd h0)]; exact h1, hn2, paired_mono h2 fun x r q => ⟨q.1, by rw [upd_ne (ne_fresh hd q.1)]; exact q.2⟩⟩ }
/-- a value that is no heap's -/
def RV0 (u : V) : R3 := fun _ _ v => v = u
theorem mon'_RV0 {u : V} : Mon' (RV0 u) := ⟨⟨fun _ h => h, fun _ h => h⟩, fun _ h => h⟩
theorem er_of_ev (h : Ev te σ H v) : Er te σ H (RV0 v) := fun H1 e Q q => h H1 e Q fun H2 e2 => q v H2 e2 rfl
/-- a new tuple of such values -/
def RT (vs : List V) : R3 := fun H1 H2 v => ∃ p, v = .ref p ∧ H1 p = none ∧ H2 p = some (.tup vs)
theorem mon'_RT {vs : List V} : Mon' (RT vs) := ⟨⟨fun e ⟨p, h, h0, h1⟩ => ⟨p, h, h0, e _ _ h1⟩, fun e ⟨p, h, h0, h1⟩ => ⟨p, h, fresh_back e h0, h1⟩⟩, fun hd ⟨p, h, h0, h1⟩ => ⟨p, h, h0, by rw [upd_ne (ne_fresh hd h0)]; exact h1⟩⟩
theorem er_of_evu {vs : List V} (h : EvU te σ H vs) : Er te σ H (RT vs) := fun H1 e Q q => h H1 e Q fun p H2 hp e2 h2 => q _ H2 e2 ⟨p, rfl, hp, h2⟩

/-- what is made so far: vs, each as R says of its turn -/
def Cr (H : Hp) (f : Nat → Bool) (R : Nat → R3) (Dl : Addr) (i : Nat) (H' : Hp) : Prop := H Dl = none ∧ Ex H H' ∧ ∃ vs : List V, H' Dl = some (.lst vs) ∧ Paired (fun v j => ∃ H3, Ex H H3 ∧ H3 Dl ≠ none ∧ R j H3 H' v) vs ((List.range i).filter f)
/-- a new list whose items are as R says, one for each of idx -/
def RLs (idx : List Nat) (R : Nat → R3) : R3 := fun H1 H2 v => ∃ p vs, v = .ref p ∧ H1 p = none ∧ H2 p = some (.lst vs) ∧ Paired (fun v j => R j H1 H2 v) vs idx
theorem filt_len (f : Nat → Bool) (i : Nat) : ((List.range i).filter f).length ≤ i := by
  have h := List.length_filter_le f (List.range i)
  rw [List.length_range] at h
  exact h
theorem filt_yes {f : Nat → Bool} {i : Nat} (h : f i = true) : (List.range (i + 1)).filter f = (List.range i).filter f ++ [i] := by
  rw [List.range_succ, List.filter_append, List.filter_cons, if_pos h]; rfl
theorem filt_no {f : Nat → Bool} {i : Nat} (h : f i = false) : (List.range (i + 1)).filter f = (List.range i).filter f := by
  rw [List.range_succ, List.filter_append, List.filter_cons, if_neg (by rw [h]; decide)]
  exact List.append_nil _
theorem filt_all (i : Nat) : (List.range i).filter (fun _ => true) = List.range i := by rw [List.filter_eq_self]; intros; rfl
theorem cr_turn {H H' : Hp} {f : Nat → Bool} {R : Nat → R3} {Dl : Addr} {i : Nat} {σ2 : L2.St} (mR : ∀ j, Mon' (R j)) (p : Cr H f R Dl i H') (hi : i < 50000) (ht : EvT t σ2 H (f i)) (he : f i = true → Er te σ2 H (R i)) :
    t σ2 H' fun b H3 => if b = true then te σ2 H3 fun y H4 => ∃ acc, H4 Dl = some (.lst acc) ∧ acc.length < sizeLine ∧ Cr H f R Dl (i + 1) (upd H4 Dl (.lst (acc ++ [y]))) else Cr H f R Dl (i + 1) H3 := by
  obtain ⟨p1, p2, vs, p3, p4⟩ := p
  refine ht H' p2 _ fun H3 e3 => ?_
  cases hf : f i with
  | true =>
    show te σ2 H3 fun y H4 => ∃ acc, H4 Dl = some (.lst acc) ∧ acc.length < sizeLine ∧ Cr H f R Dl (i + 1) (upd H4 Dl (.lst (acc ++ [y])))
    refine he hf H3 (p2.trans e3) _ fun v H4 e4 r => ⟨vs, e4 Dl _ (e3 Dl _ p3), sz_lt (by have := filt_len f i; rw [← p4.length] at this; omega), p1, Ex.mut ((p2.trans e3).trans e4) p1, vs ++ [v], upd_same, ?_⟩
    rw [filt_yes hf]
    have nd : H3 Dl ≠ none := by rw [e3 Dl _ p3]; exact fun z => nomatch z
    exact paired_append (paired_mono p4 fun v j ⟨Hz, z1, z2, z3⟩ => ⟨Hz, z1, z2, (mR j).chg z2 ((mR j).up (e3.trans e4) z3)⟩) (.cons ⟨H3, p2.trans e3, nd, (mR i).chg nd r⟩ .nil)
  | false =>
    show Cr H f R Dl (i + 1) H3
    refine ⟨p1, p2.trans e3, vs, e3 Dl _ p3, ?_⟩
    rw [filt_no hf]
    exact paired_mono p4 fun v j ⟨Hz, z1, z2, z3⟩ => ⟨Hz, z1, z2, (mR j).up e3 z3⟩
theorem cr_end {H1 H' : Hp} {f : Nat → Bool} {R : Nat → R3} {Dl : Addr} {n : Nat} (mR : ∀ j, Mon' (R j)) (e1 : Ex H H1) (p : Cr H1 f R Dl n H') : Ex H H' ∧ RLs ((List.range n).filter f) R H H' (.ref Dl) := by
  obtain ⟨p1, p2, vs, p3, p4⟩ := p
  exact ⟨e1.trans p2, Dl, vs, rfl, fresh_back e1 p1, p3, paired_mono p4 fun v j ⟨Hz, z1, z2, z3⟩ => (mR j).dn (e1.trans z1) z3⟩
/-- [te for j in range(n) if t] -/
theorem er_lcR {ta : TA} {j : Nat} {vs : List Nat} {n : Int} (f : Nat → Bool) (R : Nat → R3) (mR : ∀ j, Mon' (R j)) (h : EvA ta σ H [.int n]) (hn : 0 ≤ n ∧ n ≤ 40000) (hw : ∀ x, wipe ((wipe σ vs).set j (some x)) vs = wipe σ vs)
    (ht : ∀ (i : Nat) H1, Ex H H1 → (i : Int) < n → EvT t ((wipe σ vs).set j (some (.int (i : Int)))) H1 (f i)) (he : ∀ (i : Nat) H1, Ex H H1 → (i : Int) < n → f i = true → Er te ((wipe σ vs).set j (some (.int (i : Int)))) H1 (R i)) :
    Er (tLc (iRng1 ta) (gName j) t te vs) σ H (RLs ((List.range n.toNat).filter f) R) := fun H0 e Q q => h H0 e _ fun H1 e1 => ⟨n, rfl, by omega, by omega, fun Dl hD =>
  lc_range (lo := 0) (n := n.toNat) (Cr H1 f R Dl) ⟨hD, Ex.new hD, [], upd_same, .nil⟩ (fun i H' hi p => by
    have e0 : (0 : Int) + (i : Int) = (i : Int) := Int.zero_add _
    rw [e0]
    exact ⟨hw _, cr_turn mR p (by omega) (ht i H1 (e.trans e1) (by omega)) (fun hf => he i H1 (e.trans e1) (by omega) hf)⟩) (fun H' p => by
    obtain ⟨q1, q2⟩ := cr_end mR e1 p
    exact q _ H' q1 q2)⟩
/-- over a list that stands -/
theorem er_lcL {a : Addr} {xs : List V} {tl : TE} {j : Nat} {vs : List Nat} (f : Nat → Bool) (R : Nat → R3) (mR : ∀ j, Mon' (R j)) (h : Ev tl σ H (.ref a)) (hx : SqL K H a xs) (hz : xs.length ≤ 40000) (hw : ∀ x, wipe ((wipe σ vs).set j (some x)) vs = wipe σ vs)
    (ht : ∀ (i : Nat) (x : V) H1, Ex H H1 → xs[i]? = some x → EvT t ((wipe σ vs).set j (some x)) H1 (f i)) (he : ∀ (i : Nat) (x : V) H1, Ex H H1 → xs[i]? = some x → f i = true → Er te ((wipe σ vs).set j (some x)) H1 (R i)) :
    Er (tLc (iList K tl) (gName j) t te vs) σ H (RLs ((List.range xs.length).filter f) R) := fun H0 e Q q => h H0 e _ fun H1 e1 => ⟨a, rfl, ⟨xs, ex_l (e.trans e1) hx⟩, fun Dl hD =>
  lc_list (xs := xs) (Cr H1 f R Dl) ⟨hD, Ex.new hD, [], upd_same, .nil⟩ (fun i H' _ p => ex_l ((e.trans e1).trans p.2.1) hx) (fun i x H' hi p => ⟨hw x, cr_turn mR p (by have := (List.getElem?_eq_some_iff.mp hi).1; omega) (ht i x H1 (e.trans e1) hi) (fun hf => he i x H1 (e.trans e1) hi hf)⟩)
    (fun H' p => by
      obtain ⟨q1, q2⟩ := cr_end mR e1 p
      exact q _ H' q1 q2)⟩
/-- over a list that the reading makes -/
theorem er_lcN {R0 : R3} {tl : TE} {j n : Nat} {vs : List Nat} (f : Nat → Bool) (R : Nat → R3) (mR : ∀ j, Mon' (R j)) (h : Er tl σ H R0) (hz : n ≤ 40000) (hw : ∀ x, wipe ((wipe σ vs).set j (some x)) vs = wipe σ vs)
    (hs : ∀ H1 H2 v, Ex H H1 → Ex H1 H2 → R0 H1 H2 v → ∃ a xs, v = .ref a ∧ SqL K H2 a xs ∧ xs.length = n ∧ ∀ (i : Nat) x H3, xs[i]? = some x → Ex H2 H3 → EvT t ((wipe σ vs).set j (some x)) H3 (f i) ∧ (f i = true → Er te ((wipe σ vs).set j (some x)) H3 (R i))) :
    Er (tLc (iList K tl) (gName j) t te vs) σ H (RLs ((List.range n).filter f) R) := fun H0 e Q q => h H0 e _ fun v H1 e1 r => by
  obtain ⟨a, xs, ev, hx, hn, hi⟩ := hs H0 H1 v e e1 r
  subst ev
  subst hn
  exact ⟨a, rfl, ⟨xs, hx⟩, fun Dl hD =>
    lc_list (xs := xs) (Cr H1 f R Dl) ⟨hD, Ex.new hD, [], upd_same, .nil⟩ (fun i H' _ p => ex_l p.2.1 hx) (fun i x H' hj p => ⟨hw x, cr_turn mR p (by have := (List.getElem?_eq_some_iff.mp hj).1; omega) ((hi i x H1 hj (Ex.refl _)).1) (fun hf => (hi i x H1 hj (Ex.refl _)).2 hf)⟩)
      (fun H' p => by
        obtain ⟨q1, q2⟩ := cr_end mR e1 p
        exact q _ H' q1 q2)⟩

/-! ### a list of new rows -/
def Cm (H : Hp) (g : Nat → List Int) (Dl : Addr) (i : Nat) (H' : Hp) : Prop := Ex H H' ∧ OLLI H H' Dl ((List.range i).map g)
theorem cm_turn {H H' : Hp} {g : Nat → List Int} {Dl : Addr} {i : Nat} {σ2 : L2.St} (p : Cm H g Dl i H') (hi : i < 50000) (he : Er te σ2 H (RL (g i))) :
    tYes σ2 H' fun b H3 => if b = true then te σ2 H3 fun y H4 => ∃ acc, H4 Dl = some (.lst acc) ∧ acc.length < sizeLine ∧ Cm H g Dl (i + 1) (upd H4 Dl (.lst (acc ++ [y]))) else Cm H g Dl (i + 1) H3 := by
  obtain ⟨p1, p2⟩ := p
  show te σ2 H' fun y H4 => ∃ acc, H4 Dl = some (.lst acc) ∧ acc.length < sizeLine ∧ Cm H g Dl (i + 1) (upd H4 Dl (.lst (acc ++ [y])))
  refine he H' p1 _ fun v H4 e4 ⟨r, hv, hr1, hr2⟩ => ?_
  subst hv
  obtain ⟨vs, h1, h2, h3, h4⟩ := p2.push p1 e4 hr1 hr2
  refine ⟨vs, h1, sz_lt (by rw [h2, List.length_map, List.length_range]; omega), h4, ?_⟩
  rw [List.range_succ, List.map_append]
  exact h3
theorem em_lcR {ta : TA} {j : Nat} {vs : List Nat} {n : Int} (g : Nat → List Int) (h : EvA ta σ H [.int n]) (hn : 0 ≤ n ∧ n ≤ 40000) (hw : ∀ x, wipe ((wipe σ vs).set j (some x)) vs = wipe σ vs)
    (he : ∀ (i : Nat) H1, Ex H H1 → (i : Int) < n → Er te ((wipe σ vs).set j (some (.int (i : Int)))) H1 (RL (g i))) :
    Er (tLc (iRng1 ta) (gName j) tYes te vs) σ H (RM ((List.range n.toNat).map g)) := fun H0 e Q q => h H0 e _ fun H1 e1 => ⟨n, rfl, by omega, by omega, fun Dl hD =>
  lc_range (lo := 0) (n := n.toNat) (Cm H1 g Dl) ⟨Ex.new hD, .nil hD upd_same⟩ (fun i H' hi p => by
    have e0 : (0 : Int) + (i : Int) = (i : Int) := Int.zero_add _
    rw [e0]
    exact ⟨hw _, cm_turn p (by omega) (he i H1 (e.trans e1) (by omega))⟩) (fun H' p => q _ H' (e1.trans p.1) ⟨Dl, rfl, p.2.back e1⟩)⟩
theorem em_lcL {a : Addr} {xs : List V} {tl : TE} {j : Nat} {vs : List Nat} (g : Nat → List Int) (h : Ev tl σ H (.ref a)) (hx : SqL K H a xs) (hz : xs.length ≤ 40000) (hw : ∀ x, wipe ((wipe σ vs).set j (some x)) vs = wipe σ vs)
    (he : ∀ (i : Nat) (x : V) H1, Ex H H1 → xs[i]? = some x → Er te ((wipe σ vs).set j (some x)) H1 (RL (g i))) :
    Er (tLc (iList K tl) (gName j) tYes te vs) σ H (RM ((List.range xs.length).map g)) := fun H0 e Q q => h H0 e _ fun H1 e1 => ⟨a, rfl, ⟨xs, ex_l (e.trans e1) hx⟩, fun Dl hD =>
  lc_list (xs := xs) (Cm H1 g Dl) ⟨Ex.new hD, .nil hD upd_same⟩ (fun i H' _ p => ex_l ((e.trans e1).trans p.1) hx) (fun i x H' hi p => ⟨hw x, cm_turn p (by have := (List.getElem?_eq_some_iff.mp hi).1; omega) (he i x H1 (e.trans e1) hi)⟩)
    (fun H' p => q _ H' (e1.trans p.1) ⟨Dl, rfl, p.2.back e1⟩)⟩
end
end AT

/-! ## the rules with the written part named -/
namespace AT
open PySem PySem.Spec PyProof.Rows L2 Evl
section
variable {X : Cx} {tg : Expr}
theorem lenK (K : Frag) (h : X.K = K := by rfl) : CallR X (.builtin "len") (rLenS K) := by subst h; exact call_len_seq
theorem listK (K : Frag) (h : X.K = K := by rfl) : CallR X (.type "list") (rListS K) := by subst h; exact call_list_of
def rTupS (K : Frag) : List V → Hp → VK → Prop := fun xs H Q => ∃ p ys, xs = [.ref p] ∧ ((SqL K H p ys ∧ ∀ l, H l = none → Q (.ref l) (upd H l (.tup ys))) ∨ (SqT K H p ys ∧ Q (.ref p) H))
theorem tupK (K : Frag) (h : X.K = K := by rfl) : CallR X (.type "tuple") (rTupS K) := by subst h; exact call_tuple_of
theorem absK : CallR X (.builtin "abs") rAbs := call_abs
theorem isiK (K : Frag) (h : X.K = K := by rfl) : CallR X (.builtin "isinstance") (rIsi K) := by subst h; exact call_isi
theorem ixL (K : Frag) (h : X.K = K := by rfl) : IxR X (rIxL K) := by subst h; exact ix_list
theorem ixT (K : Frag) (h : X.K = K := by rfl) : IxR X (rIxT K) := by subst h; exact ix_tup
theorem slL (K : Frag) (h : X.K = K := by rfl) : SlR X (rSlL K) := by subst h; exact sl_list
theorem inK (K : Frag) (h : X.K = K := by rfl) : OpR X (compareOp .In) (rIn K false) := by subst h; exact op_in_seq
theorem ninK (K : Frag) (h : X.K = K := by rfl) : OpR X (compareOp .NotIn) (rIn K true) := by subst h; exact op_notIn_seq
theorem eqDK (K : Frag) (hu : X.A.units + 64 < cLine) (h : X.K = K := by rfl) : OpR X (compareOp .Eq) (rEqD K) := by subst h; exact op_eqD hu
theorem neDK (K : Frag) (hu : X.A.units + 64 < cLine) (h : X.K = K := by rfl) : OpR X (compareOp .NotEq) (rNeD K) := by subst h; exact op_neD hu
theorem sumK (K : Frag) (hc : X.calm = true) (h : X.K = K := by rfl) : CallR X (.builtin "sum") (rSum K) := by subst h; exact cr_sum hc
theorem maxK (K : Frag) (hc : X.calm = true) (h : X.K = K := by rfl) : CallR X (.builtin "max") (rMax K) := by subst h; exact cr_max hc
theorem minK (K : Frag) (hc : X.calm = true) (h : X.K = K := by rfl) : CallR X (.builtin "min") (rMin K) := by subst h; exact cr_min hc
theorem allK (K : Frag) (hc : X.calm = true) (h : X.K = K := by rfl) : CallR X (.builtin "all") (rAll K) := by subst h; exact cr_all hc
theorem sortedK (K : Frag) (h : X.K = K := by rfl) : CallR X (.builtin "sorted") (rSorted K) := by subst h; exact cr_sorted
theorem pi_listK (K : Frag) {l : Expr} {tl : TE} (hl : PE X l tl) (h : X.K = K := by rfl) : PI X tg l (iList K tl) := by subst h; exact pi_list hl
theorem pi_tupK (K : Frag) {l : Expr} {tl : TE} (hl : PE X l tl) (h : X.K = K := by rfl) : PI X tg l (iTup K tl) := by subst h; exact pi_tup hl
theorem mt_indexK (K : Frag) (h : X.K = K := by rfl) : MtR X "list.index" (rIndex K) := by subst h; exact mt_index
theorem pi_zipK (K : Frag) {e e2 : Expr} {ta : TA} {p pos tpos : Pos} {elts : List Expr} {kk : Nat} (hg : Gl X "zip") (hm : X.mg "zip" = none) (ha : PA X [e, e2] ta) (h : X.K = K := by rfl)
    (hs : starEach [e, e2] X.env = (false, eval e X.env) :: starEach [e2] X.env := by rfl) (hpl : (backTo pos (starEach [e2] X.env)).any (·.1) = false := by rfl) :
    PI X (.Tuple elts kk tpos) (.Call (.Name "zip" p) [e, e2] [] pos) (iZip K ta) := by subst h; exact pi_zip hg hm ha hs hpl
theorem pg_tupK (K : Frag) {es : List Expr} {k : Nat} {t : TGs} {n : Nat} {pos : Pos} (hc : X.calm = true) (hp : PGs X es t) (h : X.K = K := by rfl)
    (hn : (assignEach es X.env).length = n := by rfl) (hst : (assignEach es X.env).findIdx? (·.1) = none := by rfl) : PG X (.Tuple es k pos) (gTup K n t) := by subst h; exact pg_tup hc hp hn hst
section
variable {o e : Expr} {es : List Expr} {to : TE} {t : TA} {name : Str} {apos cpos : Pos} {T id : String} {r : V → List V → Hp → VK → Prop}
theorem bm0K (K : Frag) (pa : PlainAttrs T) (slot : Slot T name id) (hty : typeOf (.builtin id) = pure (.type "method_descriptor")) (hm : MtR X id r) (ho : PE X o to) (h : X.K = K := by rfl)
    (hbase : attributeBase o name X.env (eval o X.env) = eval o X.env := by rfl) (hline : (apos.endLine == cpos.line) = true := by rfl) : PE X (.Call (.Attribute o name apos) [] [] cpos) (tBM0 K T r to) := by subst h; exact pe_bm0 pa slot hty hm ho hbase hline
theorem bmK (K : Frag) (pa : PlainAttrs T) (slot : Slot T name id) (hty : typeOf (.builtin id) = pure (.type "method_descriptor")) (hm : MtR X id r) (ho : PE X o to) (ha : PA X (e :: es) t) (h : X.K = K := by rfl)
    (hbase : attributeBase o name X.env (eval o X.env) = eval o X.env := by rfl)
    (hfew : ((backTo cpos (starEach (e :: es) X.env)).all (fun x => !x.1) && (backToKw cpos (keywordEach [] X.env)).all (fun x => x.1.isSome)
      && decide ((e :: es).length + ([] : List Keyword).length + (if ([] : List Keyword).isEmpty then 0 else 1) < 30)) = true := by rfl)
    (hline : (apos.endLine == cpos.line) = true := by rfl) (hs : starEach (e :: es) X.env = (false, eval e X.env) :: starEach es X.env := by rfl) (hplain : (backTo cpos (starEach es X.env)).any (·.1) = false := by rfl) :
    PE X (.Call (.Attribute o name apos) (e :: es) [] cpos) (tBM K T r to t) := by subst h; exact pe_bm pa slot hty hm ho ha hbase hfew hline hs hplain
end
end
end AT

/-! ## own exception classes, raised, caught, looked at in a def that the suite calls -/
namespace AT
open PySem PySem.Spec PyProof.Rows L2 Evl L2H
/-- what the top has left of an own exception class without text of its own -/
structure ExcF (K : Frag) (mg : Str → Option Value) (x : Str) (C : Addr) : Prop where
  g : mg x = some (.ref C)
  xn : PySem.W.excIn K C [.type "ValueError", .type "Exception", .type "BaseException", .type "object"] "ValueError.__new__" = true
  kp : PySem.W.keepIn K (.ref C) = true
  bs : PySem.W.subIn K (.ref C) (.type "BaseException") = some true
  ty : PySem.W.typeIn K (.ref C) = some (.type "type")
  ic : PySem.W.isClsIn K C = true
  hg : PySem.W.findIn K (.ref C) "__getattribute__" = some (some (.builtin "BaseException.__getattribute__"))
  hk : PySem.W.findIn K (.ref C) "__getattr__" = some none
  hd : PySem.W.hasDictIn K C = true
  ha : PySem.W.findIn K (.ref C) "__class__" = some (some (.builtin "object.__class__"))
  hn : PySem.W.specialIn K (.builtin "object.__class__") "__get__" = some (some (.builtin "getset_descriptor.__get__"))
  ht : PySem.W.takesIn K (.builtin "object.__class__") = some true
  hm : PySem.W.mroIn K C (.type "object") = some true
  vs : PySem.W.subIn K (.ref C) (.type "ValueError") = some true
section
variable {K : Frag} {mg : Str → Option Value} {x : Str} {C D : Addr}
theorem ExcF.excC (F : ExcF K mg x C) : ExcC K C := ⟨F.hg, F.hk, F.bs, F.hd, F.ha, F.hn, F.ht, F.hm⟩
theorem ExcF.cls (F : ExcF K mg x C) : ((PySem.W.clsIn K C).isSome && PySem.W.typeIn K (.ref C) == some (.type "type")) = true := by
  have h2 : (PySem.W.clsIn K C).isSome = true := F.ic
  rw [h2, F.ty] <;> rfl
theorem ExcF.exm (F : ExcF K mg x C) {cls : Value} {b : Bool} (h : PySem.W.subIn K cls (.ref C) = some b) : PySem.W.exmOne K cls (.ref C) = some b := by
  have e1 : (PySem.W.subIn K (.ref C) (.type "BaseException") == some true) = true := by rw [F.bs] <;> rfl
  show (if (PySem.W.subIn K (.ref C) (.type "BaseException") == some true) = true then (if ((PySem.W.clsIn K C).isSome && PySem.W.typeIn K (.ref C) == some (.type "type")) = true then PySem.W.subIn K cls (.ref C) else none) else none) = some b
  rw [if_pos e1, if_pos F.cls]
  exact h
theorem ExcF.kit (F : ExcF K mg x C) {b : Bool} (h : PySem.W.subIn K (.ref D) (.ref C) = some b) (hd : D = C → b = true) : PySem.W.kitOne K (.ref D) (.ref C) = some b := by
  unfold PySem.W.kitOne
  by_cases e : D = C
  · subst e
    rw [if_pos (by simp), hd rfl]
  · rw [if_neg (by simp [e])]
    show (if ((PySem.W.clsIn K C).isSome && PySem.W.typeIn K (.ref C) == some (.type "type")) = true then PySem.W.subIn K (.ref D) (.ref C) else none) = some b
    rw [if_pos F.cls]
    exact h
theorem ExcF.kitV (F : ExcF K mg x C) : PySem.W.kitOne K (.ref C) (.type "ValueError") = some true := by
  unfold PySem.W.kitOne
  rw [if_neg (by simp)]
  show (if PySem.W.kitMeta "ValueError" = true then PySem.W.subIn K (.ref C) (.type "ValueError") else none) = some true
  rw [if_pos (by decide +kernel)]
  exact F.vs
end

/-! ### a def that is called with the exception at hand -/
structure FnE (P : Program) (w : World) (K : Frag) (mg : Str → Option Value) (base : Heap) (k : Nat) (f : Addr) (fd : FuncData) (ps : List Str) (sp : Addr → Value → Option Addr → Sp) : Prop where
  len : ∀ a c d vs H Q E, sp a c d vs H Q E → vs.length = ps.length
  run : ∀ (A : Around) (outer : List Env) (s : Shared) (H : Hp) (args : Args) (us : List Value) (vs : List V) (Q : VK) (E : XK) (p : Addr × Obj) (c : Value) (d : Option Addr), Zc c d p.2 → (∃ fv, p.2.data = .fields fv) → RoomH k A → PinOk outer H s p → Env0 P w K mg base A outer s H → BindsTo s fd args (ps.zip us) → Vals vs us → sp p.1 c d vs H Q E →
    codeAny (model P w) A (.call (.ref f) args) (CR CX0 outer P w H s Q E) s
theorem fn_ofE {P : Program} {w : World} {K : Frag} {mg : Str → Option Value} {base : Heap} {k : Nat} {f : Addr} {name qual : Str} {params : Arguments} {body : List Stmt} {scope : Scope} {dV kV doc pm cdv ct oc : Value} {an od : Option Addr}
    {osl : Array (Option Value)} {N ps : List Str} {sp : Addr → Value → Option Addr → Sp} (lk : K.lookup f = some ⟨oc, od, .func (PySem.W.fnOf name qual params body scope dV kV doc pm an cdv ct), osl⟩) (hcd : PySem.W.codeIn K cdv qual = true) (S : FnScope N ps scope)
    (len : ∀ a c d vs H Q E, sp a c d vs H Q E → vs.length = ps.length)
    (hbody : ∀ (A : Around) (outer : List Env) (s : Shared) (H : Hp) (vs : List V) (Q : VK) (E : XK) (p : Addr × Obj) (c : Value) (d : Option Addr), Zc c d p.2 → (∃ fv, p.2.data = .fields fv) → RoomH k (A.deeper (envOfC qual scope s.heap.objs.size f cdv)) → sp p.1 c d vs H Q E →
      ∃ t, PSs (cxH CX0 P w K mg base N qual scope f cdv A outer s H E p) body t ∧ t { nx := fun _ H' => Q .non H', rt := Q } (L2.start N vs) H) :
    FnE P w K mg base (k + 1) f (PySem.W.fnOf name qual params body scope dV kV doc pm an cdv ct) ps sp := by
  refine ⟨len, fun A outer s H args us vs Q E p c d hz hf hr hpin e0 hb r hsp => ?_⟩
  have hl := len _ _ _ _ _ _ _ hsp
  have KX : K.In s.heap := e0.mod.kin.keeps fun b o e => (e0.bs b o e).1
  have lim : s.heap.NoLimit := e0.mod.nolimit.keeps fun b o e => (e0.bs b o e).1
  have hkind : ∀ y ∈ ps.zip us, scope.names.lookup y.1 = some .local ∨ (scope.names.lookup y.1 = some .cell ∧ ((cellsFrom (s.heap.objs.size + 1) scope.names []).lookup y.1).isSome = true) := fun ⟨n, v⟩ hy => by
    rcases S.par n (List.of_mem_zip hy).1 with q | q
    · exact .inl q
    · exact .inr ⟨q, PySem.W.cellsFrom_some _ _ _ (.inl q)⟩
  refine codeAny_call_function hr.depth (KX _ _ lk) rfl S.co S.gen rfl (PySem.W.codeRec_of KX hcd) (hb _ _ _ _ ?_)
  refine wpAny_newFunctionEnv_cells S.kind hkind fun env he s1 x => ?_
  subst he
  refine ⟨lim.keeps x.toInCall.keep, codeAny_func ?_⟩
  obtain ⟨t, ht, hq⟩ := hbody A outer s H vs Q E p c d hz hf (hr.deeper _) hsp
  have I : Inv (cxH CX0 P w K mg base N qual scope f cdv A outer s H E p) [] (L2.start N vs) H s1 := inv_startH S hpin e0 hl r x
  refine wpAny_mono (ht.run [] s1 (L2.start N vs) H _ I hq) (fun fl s' hs => ?_) fun e s' hs => hs
  have fin : ∀ {σ' : L2.St} {H' : Hp} {v : V} {u : Value}, Inv (cxH CX0 P w K mg base N qual scope f cdv A outer s H E p) [] σ' H' s' → RelV v u → Q v H' → CE outer P w H s Q u s' :=
    fun {σ' H' v u} J rv q => ⟨v, H', J.os, J.bare, J.base, J.hok, rv, q⟩
  cases fl with
  | ret u =>
    obtain ⟨v, σ', H', J, rv, q⟩ := hs
    exact fin J rv q
  | next =>
    obtain ⟨σ', H', J, q⟩ := hs
    exact fin (v := V.non) (u := Value.none) J rfl q
  | brk =>
    obtain ⟨_, _, _, q⟩ := hs
    exact False.elim q
  | cont =>
    obtain ⟨_, _, _, q⟩ := hs
    exact False.elim q
theorem Fun.okE {P : Program} {w : World} {K : Frag} {mg : Str → Option Value} {base : Heap} {x qual : Str} {st : Stmt} {f : Addr} {fd : FuncData} {N ps : List Str} {k : Nat} {sp : Addr → Value → Option Addr → Sp} (F : Fun K x qual st f fd) (S : FnScope N ps (defScope st)) (len : ∀ a c d vs H Q E, sp a c d vs H Q E → vs.length = ps.length)
    (hbody : ∀ (cdv : Value) (A : Around) (outer : List Env) (s : Shared) (H : Hp) (vs : List V) (Q : VK) (E : XK) (p : Addr × Obj) (c : Value) (d : Option Addr), Zc c d p.2 → (∃ fv, p.2.data = .fields fv) → RoomH k (A.deeper (envOfC qual (defScope st) s.heap.objs.size f cdv)) → sp p.1 c d vs H Q E →
      ∃ t, PSs (cxH CX0 P w K mg base N qual (defScope st) f cdv A outer s H E p).nox (defBody st) t ∧ t { nx := fun _ H' => Q .non H', rt := Q } (L2.start N vs) H) : FnE P w K mg base (k + 1) f fd ps sp := by
  obtain ⟨oc, od, kV, doc, pm, an, cdv, ct, osl, rfl, lk, hcd⟩ := F.ex
  refine fn_ofE lk hcd S len fun A outer s H vs Q E p c d hz hf hr hsp => ?_
  obtain ⟨t, h, q⟩ := hbody cdv A outer s H vs Q E p c d hz hf hr hsp
  exact ⟨t, h.nox, q⟩
section
variable {X : Cx} {k : Nat} {f : Addr} {fd : FuncData} {ps : List Str} {sp : Addr → Value → Option Addr → Sp} {x : Str} {q pos : Pos} {e : Expr} {es : List Expr} {t : TA}
/-- f(e), e the exception that the suite holds -/
def tCallE (sp : Sp) (t : TA) : TE := fun σ H Q => t σ H fun vs H1 => sp vs H1 Q E0
theorem pe_callE {a : Addr} {oe : Obj} {c : Value} {d : Option Addr} (hz : Zc c d oe) (hf : ∃ fv, oe.data = .fields fv) (F : FnE X.prog X.w X.K X.mg X.base k f fd ps sp) (hr : RoomH k X.A) (hp : (a, oe) ∈ X.pn) (hg : Gl X x) (hm : X.mg x = some (.ref f)) (hk : PySem.W.keepIn X.K (.ref f) = true) (hb : Binds X.K fd ps [])
    (ha : PA X (e :: es) t) (hdb : (x == ("__debug__" : Str)) = false := by decide) (he : starEach (e :: es) X.env = (false, eval e X.env) :: starEach es X.env := by rfl) (hpl : (backTo pos (starEach es X.env)).any (·.1) = false := by rfl) :
    PE X (.Call (.Name x q) (e :: es) [] pos) (tCallE (sp a c d) t) := by
  refine ⟨fun pins s σ H Q I h => ?_⟩
  refine wpAny_Call_Name_kw (ld_glob I hg hm ?_ hdb)
  refine PySem.W.callWith_K (h₀ := X.base) I.ok.mod.kin hk (thn (ha.run pos pins s σ H _ I h) fun us s1 ⟨vs, H1, I1, r, q⟩ => ⟨I1.kIn, ?_⟩) he hpl
  have hl : us.length = ps.length := by rw [← r.length]; exact F.len _ _ _ _ _ _ _ q
  have b := hb s1 us I1.kIn (by rw [List.append_nil]; exact hl)
  rw [List.append_nil] at b
  have P1 := I1.pin (a, oe) (List.mem_append_left _ hp)
  have hpin : PinOk X.stack H1 s1 (a, oe) := ⟨P1.1, P1.2.1, fun hm => (List.mem_cons.mp (I1.stkSub a hm)).elim P1.2.2.1 P1.2.2.2.1, P1.2.2.2.2⟩
  refine wpAny_call (codeAny_mono (F.run X.A X.stack s1 H1 ⟨us, []⟩ us vs Q E0 (a, oe) c d hz hf hr hpin I1.env0 b r q) fun r s' hq => ?_)
  cases r with
  | error e => exact False.elim hq
  | ok fl =>
    cases fl with
    | ret u => exact I1.after hq
    | next => exact False.elim hq
    | brk => exact False.elim hq
    | cont => exact False.elim hq
/-- isinstance(e, C) there -/
theorem call_isP {a D : Addr} {oe : Obj} (K : Frag) (hp : (a, oe) ∈ X.pn) (C : ExcC K D) (hz : Zc (.ref D) none oe) (hf : ∃ vs, oe.data = .fields vs) (hK : X.K = K := by rfl) : CallR X (.builtin "isinstance") (rIsE K D a) := by
  subst hK
  intro pins s σ H xs us Q I r h
  obtain ⟨c, cv, b, rfl, hcv, e, q⟩ := h
  cases r with
  | cons rx rr =>
    cases rr with
    | cons rt rr =>
      cases rr
      cases rx
      have ec := hcv _ rt
      subst ec
      obtain ⟨hget, _⟩ := I.pin (a, oe) (List.mem_append.mpr (.inl hp))
      obtain ⟨vs, hv⟩ := hf
      have J : PySem.W.InstAt s.heap a oe D none := by
        obtain ⟨oc, od, oda, osl⟩ := oe
        obtain ⟨h1, h2⟩ := hz
        dsimp only at h1 h2 hv
        subst h1 h2 hv
        exact ⟨hget, rfl, rfl, trivial⟩
      exact PySem.W.kia_one (PySem.W.handS_kitx_exc C.hg C.hk C.hs C.hd C.ha C.hn C.ht C.hm) I.kIn J e (fun z => nomatch z) fun tk => ⟨.bl b, H, I.kept (t' := tk) fun _ _ z => z, rfl, q⟩
end

/-! ### list.count(True) of a list of truth values -/
def eqb (b : Bool) (v : Value) : Bool := v == .bool b
def rCntB (K : Frag) : V → List V → Hp → VK → Prop := fun x xs H Q => ∃ (p : Addr) (ns : List Bool) (k : Bool), x = .ref p ∧ xs = [.bl k] ∧ SqL K H p (ns.map V.bl) ∧ Q (.int (ns.count k : Nat)) H
theorem bools_of : ∀ {ns : List Bool} {us : List Value}, Vals (ns.map V.bl) us → us = ns.map Value.bool
  | [], _, .nil => rfl
  | n :: ns, _, .cons r t => by
    cases (show _ = Value.bool n from r)
    rw [bools_of t]; rfl
theorem bools_count (k : Bool) : ∀ ns : List Bool, (ns.map Value.bool).countP (eqb k) = ns.count k
  | [] => rfl
  | n :: ns => by
    rw [List.map_cons, List.countP_cons, List.count_cons, bools_count k ns]
    congr 1
    cases n <;> cases k <;> rfl
theorem mt_countB {X : Cx} (K : Frag) (hK : X.K = K := by rfl) : MtR X "list.count" (rCntB K) := by
  subst hK
  intro pins s σ H x xs v us Q I rx rxs h
  obtain ⟨p, ns, k, rfl, rfl, hs, q⟩ := h
  cases rx
  obtain ⟨u, rfl, ru⟩ := rxs.one
  cases (show u = Value.bool k from ru)
  obtain ⟨its, rv, ⟨⟨cls, dd, data, sl⟩, n, ho, hc, hdn, hd⟩, hlen⟩ := I.list hs
  simp only at hc hd
  subst hc hd
  have hi := bools_of rv
  subst hi
  refine call_meets PySem.F.slot_list_count ⟨_, ho, rfl⟩ PySem.F.entry_list_count (PySem.F.args_list_count_2 _ _)
    (SeqAt.list_countAt p (ns.map Value.bool).toArray n dd sl (.bool k) (eqb k)) ⟨ho, fun y hy => ?_, ?_⟩
  · obtain ⟨b, _, rfl⟩ := List.mem_map.mp (show y ∈ ns.map Value.bool by simpa using hy)
    have e := eqAt_V (A := X.A.in1) (s := s) (y := .bl b) (x := .bl k) (u := .bool b) (v := .bool k) rfl rfl rfl rfl
    have e2 : eqV (.bl b) (.bl k) = eqb k (.bool b) := by cases b <;> cases k <;> rfl
    rw [e2] at e
    exact e
  · have ec : (ns.map Value.bool).toArray.toList.countP (eqb k) = ns.count k := by
      rw [List.toList_toArray]
      exact bools_count k ns
    refine ⟨.int (ns.count k : Nat), H, I.tok _, ⟨s.toks, ?_⟩, q⟩
    show Value.int (((ns.map Value.bool).toArray.toList.countP (eqb k) : Nat) : Int) s.toks = Value.int ((ns.count k : Nat) : Int) s.toks
    rw [ec]
end AT

/-! ## more of the layer: stores into rows, menus, zip, ==, isinstance -/
namespace AT
open PySem PySem.Spec PyProof.Rows L2 Evl
abbrev E00 : Hp := fun _ => none
theorem ex_E00 {H : Hp} : Ex E00 H := fun _ _ h => by cases h
/-- a tracked list of lists, all apart -/
abbrev TLL (H : Hp) (a : Addr) (M : List (List Int)) : Prop := OLLI E00 H a M
theorem OLLI.tll {H0 H : Hp} {a : Addr} {M : List (List Int)} (h : OLLI H0 H a M) : TLL H a M := h.back ex_E00
section
variable {K : Frag} {σ : St} {H H0 H1 H' : Hp} {ta tb tc te ti tj tv : TE} {t : TT} {a b p r : Addr} {M : List (List Int)} {xs : List Int} {x y z v : V} {R : R3} {D : Ends} {tu tz : TS}

/-- M[i][j] = v -/
def setM (M : List (List Int)) (i j : Nat) (v : Int) : List (List Int) := M.set i ((M.getD i []).set j v)
theorem OLLI.store {i j : Nat} {row : List Int} {w : Int} (h : OLLI H0 H p M) (e : M[i]? = some row) : ∃ (as : List Addr) (x : Addr), H p = some (.lst (as.map V.ref)) ∧ as[i]? = some x ∧ H0 x = none ∧ H x = some (.lst (row.map V.int)) ∧
    ∀ H1, Ex H H1 → OLLI H0 (upd H1 x (.lst ((row.map V.int).set j (.int w)))) p (M.set i (row.set j w)) := by
  obtain ⟨as, h0, h1, hn, h2⟩ := h
  obtain ⟨x, ex, qx⟩ := paired_get h2 e
  refine ⟨as, x, h1, ex, qx.1, qx.2, fun H1 eH => ?_⟩
  rw [List.nodup_cons] at hn
  have hxm : x ∈ as := List.mem_of_getElem? ex
  have hpx : p ≠ x := fun z => hn.1 (z ▸ hxm)
  refine ⟨as, h0, by rw [upd_ne hpx]; exact eH _ _ h1, List.nodup_cons.mpr hn, ?_⟩
  refine paired_of (by rw [List.length_set, h2.length]) fun k y r hy hr => ?_
  by_cases hk : k = i
  · subst hk
    rw [ex] at hy; cases hy
    have hlt : k < M.length := (List.getElem?_eq_some_iff.mp e).1
    rw [List.getElem?_set_self hlt] at hr
    cases hr
    exact ⟨qx.1, by rw [upd_same, List.map_set]⟩
  · rw [List.getElem?_set_ne (Ne.symm hk)] at hr
    obtain ⟨z, hz, qz⟩ := paired_get h2 hr
    rw [hy] at hz; cases hz
    have hne : y ≠ x := fun e2 => hk (by
      subst e2
      obtain ⟨a1, b1⟩ := List.getElem?_eq_some_iff.mp hy
      obtain ⟨a2, b2⟩ := List.getElem?_eq_some_iff.mp ex
      exact (List.getElem_inj hn.2).mp (b1.trans b2.symm))
    exact ⟨qz.1, by rw [upd_ne hne]; exact eH _ _ qz.2⟩
theorem s_setM {i j : Nat} {row : List Int} {w : Int} (h : OLLI H0 H p M) (e0 : Ex H0 H) (e : M[i]? = some row) (hj : j < row.length) (he : Ev te σ H (.int w)) (ho : Ev tv σ H (.ref p)) (hi : Ev ti σ H (.int (i : Int))) (hj' : Ev tj σ H (.int (j : Int)))
    (k : ∀ H1, Ex H0 H1 → OLLI H0 H1 p (M.set i (row.set j w)) → D.nx σ H1) : tAsg te (gSub (tOp (rIxL K) tv ti) tj rSetL) D σ H := by
  obtain ⟨as, x, h1, h2, h3, h4, h5⟩ := h.store (j := j) (w := w) e
  refine s_setL (l := x) (xs := row.map V.int) (j := j) h4 he (ev_op ho hi (rv_ixL (sq_of h1) (atI_n (by rw [List.getElem?_map, h2]; rfl)))) hj' (by rw [List.length_map]; exact hj) fun H1 e1 => ?_
  exact k _ (Ex.mut (e0.trans e1) h3) (h5 H1 e1)
theorem q_setM {i j : Nat} {row : List Int} {w : Int} (h : OLLI H0 H p M) (e0 : Ex H0 H) (e : M[i]? = some row) (hj : j < row.length) (he : Ev te σ H (.int w)) (ho : Ev tv σ H (.ref p)) (hi : Ev ti σ H (.int (i : Int))) (hj' : Ev tj σ H (.int (j : Int)))
    (k : ∀ H1, Ex H0 H1 → OLLI H0 H1 p (M.set i (row.set j w)) → tz D σ H1) : tSeq (tAsg te (gSub (tOp (rIxL K) tv ti) tj rSetL)) tz D σ H :=
  s_setM (D := { D with nx := tz D }) h e0 e hj he ho hi hj' k
/-- f but v at i, j -/
def setF (f : Nat → Nat → Int) (i j : Nat) (v : Int) : Nat → Nat → Int := fun a b => if a = i ∧ b = j then v else f a b
theorem setF_fm {n i j : Nat} {f : Nat → Nat → Int} {v : Int} (hi : i < n) (hj : j < n) : (Fm n f).set i (((List.range n).map (f i)).set j v) = Fm n (setF f i j v) := by
  apply List.ext_getElem?
  intro a
  by_cases ha : a = i
  · subst ha
    rw [List.getElem?_set_self (by rw [fm_len]; exact hi), fm_get hi]
    congr 1
    apply List.ext_getElem?
    intro b
    by_cases hb : b = j
    · subst hb
      rw [List.getElem?_set_self (by simpa using hj), mapr_get hj]
      unfold setF
      rw [if_pos ⟨rfl, rfl⟩]
    · rw [List.getElem?_set_ne (Ne.symm hb)]
      by_cases hbn : b < n
      · rw [mapr_get hbn, mapr_get hbn]
        unfold setF
        rw [if_neg (fun z => hb z.2)]
      · rw [List.getElem?_eq_none (by simpa using hbn), List.getElem?_eq_none (by simpa using hbn)]
  · rw [List.getElem?_set_ne (Ne.symm ha)]
    by_cases han : a < n
    · rw [fm_get han, fm_get han]
      congr 1
      exact mapr_ext fun b _ => by
        unfold setF
        rw [if_neg (fun z => ha z.1)]
    · rw [List.getElem?_eq_none (by rw [fm_len]; omega), List.getElem?_eq_none (by rw [fm_len]; omega)]
theorem q_setFm {n i j : Nat} {f : Nat → Nat → Int} {w : Int} (h : OLLI H0 H p (Fm n f)) (e0 : Ex H0 H) (hin : i < n) (hjn : j < n) (he : Ev te σ H (.int w)) (ho : Ev tv σ H (.ref p)) (hi : Ev ti σ H (.int (i : Int))) (hj' : Ev tj σ H (.int (j : Int)))
    (k : ∀ H1, Ex H0 H1 → OLLI H0 H1 p (Fm n (setF f i j w)) → tz D σ H1) : tSeq (tAsg te (gSub (tOp (rIxL K) tv ti) tj rSetL)) tz D σ H :=
  q_setM h e0 (fm_get hin) (by simpa using hjn) he ho hi hj' fun H1 e1 h1 => k H1 e1 (by rw [setF_fm hin hjn] at h1; exact h1)
theorem s_setFm {n i j : Nat} {f : Nat → Nat → Int} {w : Int} (h : OLLI H0 H p (Fm n f)) (e0 : Ex H0 H) (hin : i < n) (hjn : j < n) (he : Ev te σ H (.int w)) (ho : Ev tv σ H (.ref p)) (hi : Ev ti σ H (.int (i : Int))) (hj' : Ev tj σ H (.int (j : Int)))
    (k : ∀ H1, Ex H0 H1 → OLLI H0 H1 p (Fm n (setF f i j w)) → D.nx σ H1) : tAsg te (gSub (tOp (rIxL K) tv ti) tj rSetL) D σ H :=
  s_setM h e0 (fm_get hin) (by simpa using hjn) he ho hi hj' fun H1 e1 h1 => k H1 e1 (by rw [setF_fm hin hjn] at h1; exact h1)

/-- [a, b, ..][i] -/
theorem ev_menu {ta : TA} {i : Nat} {vs : List V} {v : V} (h : EvA ta σ H vs) (hl : vs.length ≤ 100000) (hi : ∀ H1, Ex H H1 → Ev ti σ H1 (.int (i : Int))) (hv : vs[i]? = some v) : Ev (tOp (rIxL K) (tLst ta) ti) σ H v :=
  ev_opL1 (el_lst h hl) hi fun p H1 hp e1 => rv_ixL (sq_of hp) (atI_n hv)

/-- for x, y in zip(xs, ys) -/
theorem s_forZ {ta : TA} {i1 i2 : Nat} {xs ys : List V} (h : EvA ta σ H [.ref a, .ref b]) (ha : SqL K H a xs) (hb : SqL K H b ys) (hl : xs.length = ys.length) (Pv : Nat → St → Hp → Prop) (h0 : ∀ H1, Ex H H1 → Pv 0 σ H1)
    (hq : ∀ i σ' H', Pv i σ' H' → SqL K H' a xs ∧ SqL K H' b ys)
    (hs : ∀ (i : Nat) x y T σ' H', xs[i]? = some x → ys[i]? = some y → Pv i σ' H' → H' T = none → tu { D with nx := Pv (i + 1), ct := Pv (i + 1), bk := D.nx } ((σ'.set i1 (some x)).set i2 (some y)) (upd H' T (.tup [x, y])))
    (hd : ∀ σ' H', Pv xs.length σ' H' → D.nx σ' H') : tFor (iZip K ta) (gTup K 2 (gCons (gName i1) (gCons (gName i2) gNil))) tu D σ H :=
  h H (Ex.refl H) _ fun H1 e => ⟨a, b, xs, ys, rfl, ex_l e ha, ex_l e hb, RZ.for_zipL hl Pv (h0 H1 e) hq (fun i x y T σ' H' hx hy p hT => ⟨T, [x, y], rfl, st_of upd_same, rfl, x, [y], rfl, y, [], rfl, rfl, hs i x y T σ' H' hx hy p hT⟩) hd⟩
theorem q_forZ {ta : TA} {i1 i2 : Nat} {xs ys : List V} (h : EvA ta σ H [.ref a, .ref b]) (ha : SqL K H a xs) (hb : SqL K H b ys) (hl : xs.length = ys.length) (Pv : Nat → St → Hp → Prop) (h0 : ∀ H1, Ex H H1 → Pv 0 σ H1)
    (hq : ∀ i σ' H', Pv i σ' H' → SqL K H' a xs ∧ SqL K H' b ys)
    (hs : ∀ (i : Nat) x y T σ' H', xs[i]? = some x → ys[i]? = some y → Pv i σ' H' → H' T = none → tu { D with nx := Pv (i + 1), ct := Pv (i + 1), bk := tz D } ((σ'.set i1 (some x)).set i2 (some y)) (upd H' T (.tup [x, y])))
    (hd : ∀ σ' H', Pv xs.length σ' H' → tz D σ' H') : tSeq (tFor (iZip K ta) (gTup K 2 (gCons (gName i1) (gCons (gName i2) gNil))) tu) tz D σ H :=
  s_forZ (D := { D with nx := tz D }) h ha hb hl Pv h0 hq hs hd

/-! ### isinstance -/
theorem ev_isi {u w : Value} {n m : String} {k : Bool} (ha : Ev ta σ H x) (hx : ∀ H1, Ex H H1 → TyX K H1 x (.type n)) (hk : PySem.W.kitOne K (.type n) (.type m) = some k) : Ev (tCB (rIsi K) (tCons ta (tCons (tC (.ty m)) tNil))) σ H (.bl k) := fun H1 e Q q =>
  ha H1 e _ fun H2 e2 => ⟨x, .ty m, .type n, .type m, k, rfl, .ty m, hx H2 (e.trans e2), hk, q H2 e2⟩
theorem ev_isInt {i : Int} (ha : Ev ta σ H (.int i)) : Ev (tCB (rIsi K) (tCons ta (tCons (tC (.ty "int")) tNil))) σ H (.bl true) := ev_isi (u := .none) (w := .none) (n := "int") ha (fun _ _ => .base (.int i)) (kit_ty (by decide +kernel))
theorem ev_isIntBool {i : Int} (ha : Ev ta σ H (.int i)) : Ev (tCB (rIsi K) (tCons ta (tCons (tC (.ty "bool")) tNil))) σ H (.bl false) := ev_isi (u := .none) (w := .none) (n := "int") ha (fun _ _ => .base (.int i)) (kit_ty (by decide +kernel))
theorem ev_isList {vs : List V} (ha : Ev ta σ H (.ref p)) (h : H p = some (.lst vs)) : Ev (tCB (rIsi K) (tCons ta (tCons (tC (.ty "list")) tNil))) σ H (.bl true) := ev_isi (u := .none) (w := .none) (n := "list") ha (fun H1 e => .base (.lst (e _ _ h))) (kit_ty (by decide +kernel))
theorem ev_isBool {k : Bool} (ha : Ev ta σ H (.bl k)) : Ev (tCB (rIsi K) (tCons ta (tCons (tC (.ty "bool")) tNil))) σ H (.bl true) := ev_isi (u := .none) (w := .none) (n := "bool") ha (fun _ _ => .base (.bl k)) (kit_ty (by decide +kernel))

/-! ### == of lists of ints, of lists of them -/
def dI (xs : List Int) : List PyData := xs.map PyData.int
def dM (M : List (List Int)) : List PyData := M.map fun r => .list (dI r)
theorem dpAll_ints : ∀ xs : List Int, DpAll K H (xs.map V.int) (dI xs)
  | [] => .nil
  | x :: r => .cons (.int x) (dpAll_ints r)
theorem LI.dp (h : LI K H a xs) : Dp K H (.ref a) (.list (dI xs)) := .lst h (dpAll_ints xs)
theorem dpAll_rows : ∀ {as : List Addr} {M : List (List Int)}, Paired (fun x r => LI K H x r) as M → DpAll K H (as.map V.ref) (dM M)
  | _, _, .nil => .nil
  | _, _, .cons r t => .cons r.dp (dpAll_rows t)
theorem LLI.dp (h : LLI K H a M) : Dp K H (.ref a) (.list (dM M)) := by
  obtain ⟨as, h1, h2⟩ := h
  exact .lst h1 (dpAll_rows h2)
theorem canLay_ints : ∀ xs : List Int, PyData.canLayAll0 (dI xs) = true
  | [] => rfl
  | x :: r => by
    have := canLay_ints r
    simpa [dI, PyData.canLayAll0, PyData.canLay0] using this
theorem canLay_rows : ∀ M : List (List Int), PyData.canLayAll0 (dM M) = true
  | [] => rfl
  | x :: r => by
    have h1 := canLay_rows r
    have h2 := canLay_ints x
    simp only [dM, List.map_cons, PyData.canLayAll0, PyData.canLay0, Bool.and_eq_true]
    exact ⟨h2, h1⟩
theorem depth_ints : ∀ xs : List Int, PyData.depthAll (dI xs) ≤ 1
  | [] => by simp [dI, PyData.depthAll]
  | x :: r => by
    have := depth_ints r
    simp only [dI, List.map_cons, PyData.depthAll, PyData.depth] at *
    omega
theorem depth_rows : ∀ M : List (List Int), PyData.depthAll (dM M) ≤ 2
  | [] => by simp [dM, PyData.depthAll]
  | x :: r => by
    have h1 := depth_rows r
    have h2 := depth_ints x
    simp only [dM, List.map_cons, PyData.depthAll, PyData.depth] at *
    omega
theorem shaped_I (xs : List Int) : SeqAt.shaped (.list (dI xs)) = true := by
  unfold SeqAt.shaped
  rw [Bool.and_eq_true]
  refine ⟨by simpa [PyData.canLay0] using canLay_ints xs, decide_eq_true ?_⟩
  have := depth_ints xs
  simp only [PyData.depth]
  omega
theorem shaped_M (M : List (List Int)) : SeqAt.shaped (.list (dM M)) = true := by
  unfold SeqAt.shaped
  rw [Bool.and_eq_true]
  refine ⟨by simpa [PyData.canLay0] using canLay_rows M, decide_eq_true ?_⟩
  have := depth_rows M
  simp only [PyData.depth]
  omega
theorem eqv_I : ∀ xs ys : List Int, PyData.eqvAll (dI xs) (dI ys) = decide (xs = ys)
  | [], [] => rfl
  | [], _ :: _ => rfl
  | _ :: _, [] => rfl
  | x :: xs, y :: ys => by
    have ih := eqv_I xs ys
    show (PyData.eqv (.int x) (.int y) && PyData.eqvAll (dI xs) (dI ys)) = _
    rw [ih]
    show ((x == y) && decide (xs = ys)) = _
    by_cases e : x = y
    · subst e; simp
    · simp [e]
theorem eqv_M : ∀ xs ys : List (List Int), PyData.eqvAll (dM xs) (dM ys) = decide (xs = ys)
  | [], [] => rfl
  | [], _ :: _ => rfl
  | _ :: _, [] => rfl
  | x :: xs, y :: ys => by
    have ih := eqv_M xs ys
    show (PyData.eqv (.list (dI x)) (.list (dI y)) && PyData.eqvAll (dM xs) (dM ys)) = _
    rw [ih]
    show (PyData.eqvAll (dI x) (dI y) && decide (xs = ys)) = _
    rw [eqv_I]
    by_cases e : x = y
    · subst e; simp
    · simp [e]
theorem rv_eqM {N : List (List Int)} (ha : LLI K H a M) (hb : LLI K H b N) : RV (rEqD K) (.ref a) (.ref b) H (.bl (decide (M = N))) := fun H1 e Q q =>
  ⟨_, _, (ha.mono e).dp, (hb.mono e).dp, shaped_M M, shaped_M N, by
    show Q (.bl (PyData.eqvAll (dM M) (dM N))) H1
    rw [eqv_M]
    exact q H1 (Ex.refl _)⟩
theorem rv_neM {N : List (List Int)} (ha : LLI K H a M) (hb : LLI K H b N) : RV (rNeD K) (.ref a) (.ref b) H (.bl (!decide (M = N))) := fun H1 e Q q =>
  ⟨_, _, (ha.mono e).dp, (hb.mono e).dp, shaped_M M, shaped_M N, by
    show Q (.bl (!PyData.eqvAll (dM M) (dM N))) H1
    rw [eqv_M]
    exact q H1 (Ex.refl _)⟩
theorem rv_eqI {ys : List Int} (ha : LI K H a xs) (hb : LI K H b ys) : RV (rEqD K) (.ref a) (.ref b) H (.bl (decide (xs = ys))) := fun H1 e Q q =>
  ⟨_, _, (ha.mono e).dp, (hb.mono e).dp, shaped_I xs, shaped_I ys, by
    show Q (.bl (PyData.eqvAll (dI xs) (dI ys))) H1
    rw [eqv_I]
    exact q H1 (Ex.refl _)⟩
theorem rv_neI {ys : List Int} (ha : LI K H a xs) (hb : LI K H b ys) : RV (rNeD K) (.ref a) (.ref b) H (.bl (!decide (xs = ys))) := fun H1 e Q q =>
  ⟨_, _, (ha.mono e).dp, (hb.mono e).dp, shaped_I xs, shaped_I ys, by
    show Q (.bl (!PyData.eqvAll (dI xs) (dI ys))) H1
    rw [eqv_I]
    exact q H1 (Ex.refl _)⟩
/-- x, y = e1, e2 -/
theorem s_par {i j : Nat} {ta : TA} {v1 v2 : V} (h : EvA ta σ H [v1, v2]) (k : ∀ H1, Ex H H1 → D.nx ((σ.set i (some v1)).set j (some v2)) H1) : tPar i j ta D σ H := h H (Ex.refl H) _ fun H1 e => ⟨v1, v2, rfl, k H1 e⟩
theorem q_par {i j : Nat} {ta : TA} {v1 v2 : V} (h : EvA ta σ H [v1, v2]) (k : ∀ H1, Ex H H1 → tz D ((σ.set i (some v1)).set j (some v2)) H1) : tSeq (tPar i j ta) tz D σ H := s_par (D := { D with nx := tz D }) h k
/-! ### xs[1:], calls with new arguments, xs.pop() -/
theorem cut1 (xs : List V) : cutV xs (some 1) none = xs.drop 1 := by
  unfold cutV
  rw [show HT.sIx xs.length 0 (some 1) = min 1 xs.length from HT.sIx_nat xs.length 0 1, HT.sIx_none]
  cases xs with
  | nil => rfl
  | cons x r =>
    rw [show min 1 (x :: r).length = 1 by
      rw [List.length_cons]
      omega]
    show (List.take ((x :: r).length - 1) r) = r
    rw [List.length_cons, Nat.add_sub_cancel]
    exact List.take_length
def RTL (N : List (List Int)) : R3 := fun _ H2 v => ∃ y, v = .ref y ∧ TLL H2 y N
theorem er_slice1 {N : List (List Int)} {x : Addr} (h : Ev te σ H (.ref x)) (hN : OLLI H0 H x N) : Er (tSl (rSlL K) te (tPart (tC (.int 1))) tNoPart) σ H (RTL (N.drop 1)) := fun H1 e Q q => by
  obtain ⟨as, _, h1, hn, h2⟩ := hN
  refine el_sl h (eo_some ev_c) eo_none (sq_of h1) H1 e _ fun p H2 hp e2 hp2 => q _ H2 e2 ⟨p, rfl, as.drop 1, rfl, ?_, ?_, ?_⟩
  · rw [hp2, cut1, List.map_drop]
  · rw [List.nodup_cons] at hn ⊢
    refine ⟨fun hm => ?_, hn.2.sublist (List.drop_sublist 1 as)⟩
    have hm2 : p ∈ as := List.mem_of_mem_drop hm
    obtain ⟨r, _, hr⟩ := paired_mem h2 hm2
    have := e _ _ hr.2
    rw [hp] at this
    cases this
  · exact paired_drop 1 (paired_mono h2 fun x r q => ⟨rfl, (e.trans e2) _ _ q.2⟩)
theorem ev_callR2 {R1 R2 : R3} {sp : Sp} {E : XK} {t1 t2 : TE} (h1 : Er t1 σ H R1) (h2 : Er t2 σ H R2) (hs : ∀ v1 v2 H1 H2 H3, Ex H H1 → Ex H1 H2 → Ex H2 H3 → R1 H1 H2 v1 → R2 H2 H3 v2 → SpV sp [v1, v2] H3 z) : Ev (tCall sp [] E (tCons t1 (tCons t2 tNil))) σ H z := fun H1 e Q q =>
  h1 H1 e _ fun v1 H2 e2 r1 => h2 H2 (e.trans e2) _ fun v2 H3 e3 r2 => hs v1 v2 H1 H2 H3 e e2 e3 r1 r2 H3 (Ex.refl _) Q (fun H4 e4 => q H4 ((e2.trans e3).trans e4)) E
theorem s_pop {l : Addr} {vs : List V} {y : V} (hl : H l = some (.lst vs)) (ha : Ev ta σ H (.ref l)) (hy : vs[vs.length - 1]? = some y) (k : ∀ H1, Ex H H1 → D.nx σ (upd H1 l (.lst vs.dropLast))) : tDrop (tBM0 K "list" rPop ta) D σ H :=
  ha H (Ex.refl H) _ fun H1 e1 => ⟨.inl ⟨rfl, vs, sq_of (e1 _ _ hl)⟩, l, vs, y, rfl, rfl, e1 _ _ hl, hy, k H1 e1⟩
end
end AT

/-! ## calls whose arguments are new things; the greatest of a list -/
namespace AT
open PySem PySem.Spec PyProof.Rows L2 Evl
section
variable {K : Frag} {σ : St} {H H0 H1 H' : Hp} {ta : TA} {te t1 t2 : TE} {t : TT} {a b p r : Addr} {M : List (List Int)} {xs : List Int} {x y z v : V} {R R1 R2 : R3} {D : Ends} {tu tz : TS} {sp : Sp} {E : XK} {vs : List V}
theorem ev_callR1 (h1 : Er t1 σ H R1) (h2 : EvA ta σ H vs) (hs : ∀ v1 H1 H2 H3, Ex H H1 → Ex H1 H2 → Ex H2 H3 → R1 H1 H2 v1 → SpV sp (v1 :: vs) H3 z) : Ev (tCall sp [] E (tCons t1 ta)) σ H z := fun H1 e Q q =>
  h1 H1 e _ fun v1 H2 e2 r1 => h2 H2 (e.trans e2) _ fun H3 e3 => (by
    show sp ((v1 :: vs) ++ []) H3 Q E
    rw [List.append_nil]
    exact hs v1 H1 H2 H3 e e2 e3 r1 H3 (Ex.refl _) Q (fun H4 e4 => q H4 ((e2.trans e3).trans e4)) E)
theorem er_callR1 (mR : Mon R) (h1 : Er t1 σ H R1) (h2 : EvA ta σ H vs) (hs : ∀ v1 H1 H2 H3, Ex H H1 → Ex H1 H2 → Ex H2 H3 → R1 H1 H2 v1 → SpR sp (v1 :: vs) H3 R) : Er (tCall sp [] E (tCons t1 ta)) σ H R := fun H1 e Q q =>
  h1 H1 e _ fun v1 H2 e2 r1 => h2 H2 (e.trans e2) _ fun H3 e3 => (by
    show sp ((v1 :: vs) ++ []) H3 Q E
    rw [List.append_nil]
    exact hs v1 H1 H2 H3 e e2 e3 r1 H3 (Ex.refl _) Q (fun v H4 e4 r => q v H4 ((e2.trans e3).trans e4) (mR.dn (e2.trans e3) r)) E)
theorem er_callR2 (mR : Mon R) (h1 : Er t1 σ H R1) (h2 : Er t2 σ H R2) (hs : ∀ v1 v2 H1 H2 H3, Ex H H1 → Ex H1 H2 → Ex H2 H3 → R1 H1 H2 v1 → R2 H2 H3 v2 → SpR sp [v1, v2] H3 R) : Er (tCall sp [] E (tCons t1 (tCons t2 tNil))) σ H R := fun H1 e Q q =>
  h1 H1 e _ fun v1 H2 e2 r1 => h2 H2 (e.trans e2) _ fun v2 H3 e3 r2 => hs v1 v2 H1 H2 H3 e e2 e3 r1 r2 H3 (Ex.refl _) Q (fun v H4 e4 r => q v H4 ((e2.trans e3).trans e4) (mR.dn (e2.trans e3) r)) E
/-- x a name, the second new -/
theorem er_evR (h : Ev te σ H v) : Er te σ H (fun _ _ u => u = v) := fun H1 e Q q => h H1 e Q fun H2 e2 => q v H2 e2 rfl

/-! ### max -/
def maxL : List Int → Int
  | [] => 0
  | [x] => x
  | x :: y :: r => if x ≤ maxL (y :: r) then maxL (y :: r) else x
theorem maxL_mem : ∀ {xs : List Int}, xs ≠ [] → maxL xs ∈ xs
  | [], h => absurd rfl h
  | [x], _ => List.mem_cons_self
  | x :: y :: r, _ => by
    unfold maxL
    split
    · exact List.mem_cons_of_mem _ (maxL_mem (by simp))
    · exact List.mem_cons_self
theorem maxL_le : ∀ {xs : List Int} {y : Int}, y ∈ xs → y ≤ maxL xs
  | [x], y, h => by
    have : y = x := by simpa using h
    subst this
    exact Int.le_refl _
  | x :: z :: r, y, h => by
    unfold maxL
    rcases List.mem_cons.mp h with rfl | h
    · split <;> omega
    · have := maxL_le (xs := z :: r) h
      split <;> omega
theorem maxL_eq {xs : List Int} {m : Int} (h1 : m ∈ xs) (h2 : ∀ y, y ∈ xs → y ≤ m) : m = maxL xs :=
  Int.le_antisymm (maxL_le h1) (h2 _ (maxL_mem (fun z => by subst z; cases h1)))
theorem maxL_le_iff {xs : List Int} {b : Int} (h : xs ≠ []) : maxL xs ≤ b ↔ ∀ y, y ∈ xs → y ≤ b :=
  ⟨fun h2 y hy => Int.le_trans (maxL_le hy) h2, fun h2 => h2 _ (maxL_mem h)⟩
theorem ev_max (h : EvL te σ H (xs.map V.int)) (hn : xs ≠ []) : Ev (tCB (rMax K) (tCons te tNil)) σ H (.int (maxL xs)) := fun H1 e Q q =>
  h H1 e _ fun p H2 hp e2 h2 => ⟨p, xs, rfl, sq_of h2, List.length_pos_iff.mpr hn, fun m hm hle => by
    rw [maxL_eq hm hle]
    exact q H2 e2⟩
theorem ev_maxN (h : Ev te σ H (.ref a)) (hL : LI K H a xs) (hn : xs ≠ []) : Ev (tCB (rMax K) (tCons te tNil)) σ H (.int (maxL xs)) := fun H1 e Q q =>
  h H1 e _ fun H2 e2 => ⟨a, xs, rfl, hL.mono (e.trans e2), List.length_pos_iff.mpr hn, fun m hm hle => by
    rw [maxL_eq hm hle]
    exact q H2 e2⟩
/-- [te for x in xs] of ints, over the rows of a list of lists, over a list of ints -/
theorem el_lcRows {tl : TE} {j : Nat} {ws : List Nat} (g : List Int → Int) (h : Ev tl σ H (.ref a)) (hM : LLI K H a M) (hz : M.length ≤ 40000) (hw : ∀ x, wipe ((wipe σ ws).set j (some x)) ws = wipe σ ws)
    (he : ∀ x r H1, Ex H H1 → r ∈ M → LI K H1 x r → Ev te ((wipe σ ws).set j (some (.ref x))) H1 (.int (g r))) : EvL (tLc (iList K tl) (gName j) tYes te ws) σ H ((M.map g).map V.int) := by
  obtain ⟨as, h1, h2⟩ := hM
  have hl := h2.length
  have := el_lcL (K := K) (te := te) (t := tYes) (fun _ => true) (fun i => .int (g (M.getD i []))) h h1 (by rw [List.length_map]; omega) hw (fun _ _ _ _ _ _ _ Q q => q _ (Ex.refl _)) (fun i x H1 e1 hx _ => by
    rw [List.getElem?_map] at hx
    cases hy : as[i]? with
    | none => rw [hy] at hx; cases hx
    | some y =>
      rw [hy] at hx
      cases hx
      obtain ⟨r, q1, q2⟩ := paired_getL h2 hy
      rw [List.getD_eq_getElem?_getD, q1]
      exact he y r H1 e1 (List.mem_of_getElem? q1) (q2.mono e1))
  unfold given at this
  rw [filt_all, List.length_map, hl] at this
  have e : (List.range M.length).map (fun i => V.int (g (M.getD i []))) = (M.map g).map V.int := by
    rw [List.map_map]
    conv => rhs; rw [list_eq_range' [] M]
    rw [List.map_map]; rfl
  rw [e] at this
  exact this
where
  list_eq_range' {α : Type} (d : α) (l : List α) : l = (List.range l.length).map fun i => l.getD i d := by
    apply List.ext_getElem
    · simp
    · intro i h1 h2
      simp [List.getD_eq_getElem?_getD, h1]
theorem el_lcInts {tl : TE} {j : Nat} {ws : List Nat} (g : Int → Int) (h : Ev tl σ H (.ref a)) (hM : LI K H a xs) (hz : xs.length ≤ 40000) (hw : ∀ x, wipe ((wipe σ ws).set j (some x)) ws = wipe σ ws)
    (he : ∀ x H1, Ex H H1 → Ev te ((wipe σ ws).set j (some (.int x))) H1 (.int (g x))) : EvL (tLc (iList K tl) (gName j) tYes te ws) σ H ((xs.map g).map V.int) := by
  have := el_lcL (K := K) (te := te) (t := tYes) (fun _ => true) (fun i => .int (g (xs.getD i 0))) h hM (by rw [List.length_map]; omega) hw (fun _ _ _ _ _ _ _ Q q => q _ (Ex.refl _)) (fun i x H1 e1 hx _ => by
    rw [List.getElem?_map] at hx
    cases hy : xs[i]? with
    | none => rw [hy] at hx; cases hx
    | some y =>
      rw [hy] at hx
      cases hx
      rw [List.getD_eq_getElem?_getD, hy]
      exact he y H1 e1)
  unfold given at this
  rw [filt_all, List.length_map] at this
  have e : (List.range xs.length).map (fun i => V.int (g (xs.getD i 0))) = (xs.map g).map V.int := by
    rw [List.map_map]
    apply List.ext_getElem
    · simp
    · intro i h1 h2
      simp at h1
      simp [List.getD_eq_getElem?_getD, h1]
  rw [e] at this
  exact this
end
/-! ### calls of the known defs -/
end AT

/-! ## chains of comparisons, ifs on a known number, rows changed -/
namespace AT
open PySem PySem.Spec PyProof.Rows L2 Evl
section
variable {K : Frag} {σ : St} {H H0 H1 H' : Hp} {ta tb tc te t1 t2 : TE} {t : TT} {a b p r : Addr} {M : List (List Int)} {xs : List Int} {x y z v : V} {R Ra Rb : R3} {D : Ends} {tu tz : TS}
theorem ev_chain {r r' : R2} {k1 k2 : Bool} (ha : Ev ta σ H x) (hb : Ev tb σ H y) (hr : RV r x y H (.bl k1)) (hc : Ev tc σ H z) (hr' : RV r' y z H (.bl k2)) : Ev (tChain r r' ta tb tc) σ H (.bl (k1 && k2)) := fun H1 e Q q =>
  ha H1 e _ fun H2 e2 => hb H2 (e.trans e2) _ fun H3 e3 => hr H3 ((e.trans e2).trans e3) _ fun H4 e4 => ⟨k1, rfl, by
    cases k1 with
    | false =>
      rw [if_neg Bool.false_ne_true]
      exact q H4 ((e2.trans e3).trans e4)
    | true =>
      rw [if_pos rfl]
      exact hc H4 (((e.trans e2).trans e3).trans e4) _ fun H5 e5 => hr' H5 ((((e.trans e2).trans e3).trans e4).trans e5) _ fun H6 e6 => q H6 (((e2.trans e3).trans e4).trans (e5.trans e6))⟩
theorem q_skip {i : Nat} {m k : Int} (h : σ[i]? = some (some (.int m))) (hm : m ≠ k) (q : tz D σ H) : tSeq (tIfS (tTest (tOp rEq (tVar i) (tC (.int k)))) tu tNext) tz D σ H :=
  ⟨.int m, h, rfl, _, rfl, by
    have : ¬ (V.int m = V.int k) := fun e => hm (by injection e)
    show (if decide (V.int m = V.int k) = true then _ else _)
    rw [if_neg (by simp [this])]
    exact q⟩
theorem q_take {i : Nat} {m k : Int} (h : σ[i]? = some (some (.int m))) (hm : m = k) (q : tu { D with nx := tz D } σ H) : tSeq (tIfS (tTest (tOp rEq (tVar i) (tC (.int k)))) tu tNext) tz D σ H :=
  ⟨.int m, h, rfl, _, rfl, by
    subst hm
    show (if decide (V.int m = V.int m) = true then _ else _)
    rw [if_pos (by simp)]
    exact q⟩
theorem s_skip {i : Nat} {m k : Int} (h : σ[i]? = some (some (.int m))) (hm : m ≠ k) (q : D.nx σ H) : tIfS (tTest (tOp rEq (tVar i) (tC (.int k)))) tu tNext D σ H :=
  ⟨.int m, h, rfl, _, rfl, by
    have : ¬ (V.int m = V.int k) := fun e => hm (by injection e)
    show (if decide (V.int m = V.int k) = true then _ else _)
    rw [if_neg (by simp [this])]
    exact q⟩
theorem s_take {i : Nat} {m k : Int} (h : σ[i]? = some (some (.int m))) (hm : m = k) (q : tu D σ H) : tIfS (tTest (tOp rEq (tVar i) (tC (.int k)))) tu tNext D σ H :=
  ⟨.int m, h, rfl, _, rfl, by
    subst hm
    show (if decide (V.int m = V.int m) = true then _ else _)
    rw [if_pos (by simp)]
    exact q⟩
theorem paired_eraseIdx {α β : Type} {F : α → β → Prop} : ∀ {l₁ : List α} {l₂ : List β} (n : Nat), Paired F l₁ l₂ → Paired F (l₁.eraseIdx n) (l₂.eraseIdx n)
  | _, _, _, .nil => by simp only [List.eraseIdx_nil]; exact .nil
  | _, _, 0, .cons _ t => t
  | _, _, n + 1, .cons r t => .cons r (paired_eraseIdx n t)
theorem map_erase {α β : Type} (f : α → β) : ∀ (l : List α) (i : Nat), (l.map f).eraseIdx i = (l.eraseIdx i).map f
  | [], i => by simp
  | a :: r, 0 => rfl
  | a :: r, n + 1 => by simp [map_erase f r n]
/-- a row of a tracked list of lists, and what becomes of all where it is put otherwise -/
theorem OLLI.row_upd {i : Nat} {row : List Int} (h : OLLI H0 H p M) (e : M[i]? = some row) : ∃ (as : List Addr) (x : Addr), H p = some (.lst (as.map V.ref)) ∧ as[i]? = some x ∧ H0 x = none ∧ H x = some (.lst (row.map V.int)) ∧
    ∀ H1 row', Ex H H1 → OLLI H0 (upd H1 x (.lst (row'.map V.int))) p (M.set i row') := by
  obtain ⟨as, h0, h1, hn, h2⟩ := h
  obtain ⟨x, ex, qx⟩ := paired_get h2 e
  refine ⟨as, x, h1, ex, qx.1, qx.2, fun H1 row' eH => ?_⟩
  rw [List.nodup_cons] at hn
  have hxm : x ∈ as := List.mem_of_getElem? ex
  have hpx : p ≠ x := fun z => hn.1 (z ▸ hxm)
  refine ⟨as, h0, by rw [upd_ne hpx]; exact eH _ _ h1, List.nodup_cons.mpr hn, ?_⟩
  refine paired_of (by rw [List.length_set, h2.length]) fun k y r hy hr => ?_
  by_cases hk : k = i
  · subst hk
    rw [ex] at hy; cases hy
    have hlt : k < M.length := (List.getElem?_eq_some_iff.mp e).1
    rw [List.getElem?_set_self hlt] at hr
    cases hr
    exact ⟨qx.1, upd_same⟩
  · rw [List.getElem?_set_ne (Ne.symm hk)] at hr
    obtain ⟨z, hz, qz⟩ := paired_get h2 hr
    rw [hy] at hz; cases hz
    have hne : y ≠ x := fun e2 => hk (by
      subst e2
      obtain ⟨a1, b1⟩ := List.getElem?_eq_some_iff.mp hy
      obtain ⟨a2, b2⟩ := List.getElem?_eq_some_iff.mp ex
      exact (List.getElem_inj hn.2).mp (b1.trans b2.symm))
    exact ⟨qz.1, by rw [upd_ne hne]; exact eH _ _ qz.2⟩
theorem OLLI.erase (h : OLLI H0 H p M) (i : Nat) : ∃ vs : List V, H p = some (.lst vs) ∧ vs.length = M.length ∧ ∀ H1, Ex H H1 → OLLI H0 (upd H1 p (.lst (vs.eraseIdx i))) p (M.eraseIdx i) := by
  obtain ⟨as, h0, h1, hn, h2⟩ := h
  refine ⟨as.map V.ref, h1, by rw [List.length_map, h2.length], fun H1 e => ⟨as.eraseIdx i, h0, ?_, ?_, ?_⟩⟩
  · rw [upd_same, map_erase]
  · rw [List.nodup_cons] at hn ⊢
    exact ⟨fun hm => hn.1 ((List.eraseIdx_sublist as i).subset hm), hn.2.sublist (List.eraseIdx_sublist as i)⟩
  · rw [List.nodup_cons] at hn
    have h3 : Paired (fun x r => OLI H0 H1 x r) as M := paired_mono h2 fun _ _ q => q.mono e
    refine paired_mem_mono (paired_eraseIdx i h3) fun x r hx q => ⟨q.1, ?_⟩
    have hxa : x ∈ as := (List.eraseIdx_sublist as i).subset hx
    rw [upd_ne (fun z : x = p => hn.1 (z ▸ hxa))]
    exact q.2
theorem seqIx {i n : Nat} (h : i < n) : seqIndex? (i : Int) n = some i := by
  unfold seqIndex?
  have e : (if (i : Int) < 0 then (i : Int) + (n : Int) else (i : Int)) = (i : Int) := if_neg (by omega)
  simp only [e]
  rw [if_pos (by simp; omega)]
  simp
/-- [te] of a new list -/
theorem er_lstM {row : List Int} (h : Er te σ H (RL row)) : Er (tLst (tCons te tNil)) σ H (RM [row]) := fun H1 e Q q =>
  h H1 e (fun x H2 => [x].length ≤ sizeLine ∧ ∀ p, H2 p = none → Q (.ref p) (upd H2 p (.lst [x]))) fun v H2 e2 ⟨r, hv, hr, hr2⟩ => by
    subst hv
    exact ⟨by show 1 ≤ sizeLine; decide, fun p hp => q _ _ (e2.trans (Ex.new hp)) ⟨p, rfl, [r], fresh_back e2 hp, upd_same, by simpa using (ne_of_none hr2 hp).symm, .cons ⟨hr, by rw [upd_ne (ne_of_none hr2 hp)]; exact hr2⟩ .nil⟩⟩
/-- a call for its own sake, the first argument new -/
theorem s_dropR1 {sp : Sp} {E : XK} {dvs : List V} {ta : TA} (h1 : Er te σ H R) (k : ∀ v H1, Ex H H1 → R H H1 v → ta σ H1 (fun vs H2 => sp ((v :: vs) ++ dvs) H2 (fun _ H3 => D.nx σ H3) E)) : tDrop (tCall sp dvs E (tCons te ta)) D σ H :=
  h1 H (Ex.refl _) (fun x H2 => ta σ H2 fun xs H3 => sp ((x :: xs) ++ dvs) H3 (fun _ H4 => D.nx σ H4) E) k
/-- x = f(..) in a try, f(..) in a try -/
theorem s_asgS {sp : Sp} {Ef : L2.St → XK} {i : Nat} {ta : TA} {vs : List V} (h : EvA ta σ H vs) (k : ∀ H1, Ex H H1 → sp vs H1 (fun v H2 => D.nx (σ.set i (some v)) H2) (Ef σ)) : tAsg (tCallS sp Ef ta) (gName i) D σ H := h H (Ex.refl H) _ k
theorem s_dropS {sp : Sp} {Ef : L2.St → XK} {ta : TA} {vs : List V} (h : EvA ta σ H vs) (k : ∀ H1, Ex H H1 → sp vs H1 (fun _ H2 => D.nx σ H2) (Ef σ)) : tDrop (tCallS sp Ef ta) D σ H := h H (Ex.refl H) _ k
/-- xs.pop(i) as a statement -/
theorem s_popAt {l : Addr} {vs : List V} {i : Nat} (hl : H l = some (.lst vs)) (ha : Ev ta σ H (.ref l)) (hi : Ev tb σ H (.int (i : Int))) (hin : i < vs.length) (hs : vs.length ≤ 100000) (k : ∀ H1, Ex H H1 → D.nx σ (upd H1 l (.lst (vs.eraseIdx i)))) : tDrop (tBM K "list" rPopAt ta (tCons tb tNil)) D σ H :=
  ha H (Ex.refl H) _ fun H1 e1 => ⟨.inl ⟨rfl, vs, sq_of (e1 _ _ hl)⟩, hi H1 e1 _ fun H2 e2 => ⟨l, vs, (i : Int), i, vs[i], rfl, rfl, (e1.trans e2) _ _ hl, by omega, by omega, seqIx hin, List.getElem?_eq_getElem hin, k H2 (e1.trans e2)⟩⟩
end
end AT

/-! ## data that can be compared: < and its fellows -/
namespace AT
open PySem PySem.Spec PyProof.Rows L2 Evl
section
variable {X : Cx}
def rGtD (K : Frag) : R2 := fun x y H Q => ∃ d e, Dp K H x d ∧ Dp K H y e ∧ PySem.W.alike d e = true ∧ d ≠ .none ∧ d.depth ≤ 60 ∧ Q (.bl (PySem.W.dataLt e d)) H
def rLtD (K : Frag) : R2 := fun x y H Q => ∃ d e, Dp K H x d ∧ Dp K H y e ∧ PySem.W.alike d e = true ∧ d ≠ .none ∧ d.depth ≤ 60 ∧ Q (.bl (PySem.W.dataLt d e)) H
def rGeD (K : Frag) : R2 := fun x y H Q => ∃ d e, Dp K H x d ∧ Dp K H y e ∧ PySem.W.alike d e = true ∧ d ≠ .none ∧ d.depth ≤ 60 ∧ Q (.bl (!PySem.W.dataLt d e)) H
def rLeD (K : Frag) : R2 := fun x y H Q => ∃ d e, Dp K H x d ∧ Dp K H y e ∧ PySem.W.alike d e = true ∧ d ≠ .none ∧ d.depth ≤ 60 ∧ Q (.bl (!PySem.W.dataLt e d)) H
theorem gtDK (K : Frag) (hu : X.A.units + 64 < cLine) (h : X.K = K := by rfl) : OpR X (compareOp .Gt) (rGtD K) := by
  subst h
  intro pins s σ H x y v u Q I rx ry h
  obtain ⟨d, e, hd, he, ha, hn, hdp, q⟩ := h
  obtain ⟨as, r1⟩ := Dp.reads I d x v hd rx
  obtain ⟨bs, r2⟩ := Dp.reads I e y u he ry
  exact PySem.W.gt_data r1 r2 ha hn (by omega) ⟨.bl _, H, I, rfl, q⟩
theorem ltDK (K : Frag) (hu : X.A.units + 64 < cLine) (h : X.K = K := by rfl) : OpR X (compareOp .Lt) (rLtD K) := by
  subst h
  intro pins s σ H x y v u Q I rx ry h
  obtain ⟨d, e, hd, he, ha, hn, hdp, q⟩ := h
  obtain ⟨as, r1⟩ := Dp.reads I d x v hd rx
  obtain ⟨bs, r2⟩ := Dp.reads I e y u he ry
  exact PySem.W.lt_data r1 r2 ha hn (by omega) ⟨.bl _, H, I, rfl, q⟩
theorem geDK (K : Frag) (hu : X.A.units + 64 < cLine) (h : X.K = K := by rfl) : OpR X (compareOp .GtE) (rGeD K) := by
  subst h
  intro pins s σ H x y v u Q I rx ry h
  obtain ⟨d, e, hd, he, ha, hn, hdp, q⟩ := h
  obtain ⟨as, r1⟩ := Dp.reads I d x v hd rx
  obtain ⟨bs, r2⟩ := Dp.reads I e y u he ry
  exact PySem.W.ge_data r1 r2 ha hn (by omega) ⟨.bl _, H, I, rfl, q⟩
theorem leDK (K : Frag) (hu : X.A.units + 64 < cLine) (h : X.K = K := by rfl) : OpR X (compareOp .LtE) (rLeD K) := by
  subst h
  intro pins s σ H x y v u Q I rx ry h
  obtain ⟨d, e, hd, he, ha, hn, hdp, q⟩ := h
  obtain ⟨as, r1⟩ := Dp.reads I d x v hd rx
  obtain ⟨bs, r2⟩ := Dp.reads I e y u he ry
  exact PySem.W.le_data r1 r2 ha hn (by omega) ⟨.bl _, H, I, rfl, q⟩
end
section
variable {K : Frag} {H : Hp} {α : Type} [DecidableEq α] [PySem.W.DatumOrd α] {x y : V} {a b : α}
theorem rv_gtD (hx : ∀ H1, Ex H H1 → Dp K H1 x (PySem.W.Datum.toD a)) (hy : ∀ H1, Ex H H1 → Dp K H1 y (PySem.W.Datum.toD b)) (hd : PySem.W.Datum.depth α ≤ 60) : RV (rGtD K) x y H (.bl (PySem.W.DatumOrd.lt b a)) := fun H1 e Q q =>
  ⟨_, _, hx H1 e, hy H1 e, PySem.W.DatumOrd.alike a b, PySem.W.DatumOrd.notNone a, Nat.le_trans (PySem.W.Datum.depth_le a) hd, by rw [PySem.W.DatumOrd.lt_eq]; exact q H1 (Ex.refl _)⟩
theorem rv_ltD (hx : ∀ H1, Ex H H1 → Dp K H1 x (PySem.W.Datum.toD a)) (hy : ∀ H1, Ex H H1 → Dp K H1 y (PySem.W.Datum.toD b)) (hd : PySem.W.Datum.depth α ≤ 60) : RV (rLtD K) x y H (.bl (PySem.W.DatumOrd.lt a b)) := fun H1 e Q q =>
  ⟨_, _, hx H1 e, hy H1 e, PySem.W.DatumOrd.alike a b, PySem.W.DatumOrd.notNone a, Nat.le_trans (PySem.W.Datum.depth_le a) hd, by rw [PySem.W.DatumOrd.lt_eq]; exact q H1 (Ex.refl _)⟩
theorem rv_geD (hx : ∀ H1, Ex H H1 → Dp K H1 x (PySem.W.Datum.toD a)) (hy : ∀ H1, Ex H H1 → Dp K H1 y (PySem.W.Datum.toD b)) (hd : PySem.W.Datum.depth α ≤ 60) : RV (rGeD K) x y H (.bl (!PySem.W.DatumOrd.lt a b)) := fun H1 e Q q =>
  ⟨_, _, hx H1 e, hy H1 e, PySem.W.DatumOrd.alike a b, PySem.W.DatumOrd.notNone a, Nat.le_trans (PySem.W.Datum.depth_le a) hd, by rw [PySem.W.DatumOrd.lt_eq]; exact q H1 (Ex.refl _)⟩
theorem rv_leD (hx : ∀ H1, Ex H H1 → Dp K H1 x (PySem.W.Datum.toD a)) (hy : ∀ H1, Ex H H1 → Dp K H1 y (PySem.W.Datum.toD b)) (hd : PySem.W.Datum.depth α ≤ 60) : RV (rLeD K) x y H (.bl (!PySem.W.DatumOrd.lt b a)) := fun H1 e Q q =>
  ⟨_, _, hx H1 e, hy H1 e, PySem.W.DatumOrd.alike a b, PySem.W.DatumOrd.notNone a, Nat.le_trans (PySem.W.Datum.depth_le a) hd, by rw [PySem.W.DatumOrd.lt_eq]; exact q H1 (Ex.refl _)⟩
end
abbrev ltI (xs ys : List Int) : Bool := PySem.W.listLt xs ys
abbrev ltM (M N : List (List Int)) : Bool := PySem.W.listLt M N
theorem toD_I (xs : List Int) : PySem.W.Datum.toD xs = PyData.list (dI xs) := rfl
theorem toD_M (M : List (List Int)) : PySem.W.Datum.toD M = PyData.list (dM M) := rfl
theorem rv_gtI {K : Frag} {H : Hp} {a b : Addr} {xs ys : List Int} (ha : LI K H a xs) (hb : LI K H b ys) : RV (rGtD K) (.ref a) (.ref b) H (.bl (ltI ys xs)) :=
  rv_gtD (a := xs) (b := ys) (fun H1 e => (ha.mono e).dp) (fun H1 e => (hb.mono e).dp) (by decide)
end AT

/-! ## the least of data -/
namespace AT
open PySem PySem.Spec PyProof.Rows L2 Evl
section
variable {X : Cx}
def rMinD (K : Frag) : List V → Hp → VK → Prop := fun vs H Q => ∃ (a : Addr) (xs : List V) (d : PyData) (ds : List PyData), vs = [V.ref a] ∧ SqL K H a xs ∧ DpAll K H xs (d :: ds) ∧ PySem.W.AlikeAll (d :: ds) ∧ PyData.depthAll (d :: ds) ≤ 60 ∧
  ∀ (i : Nat) v, xs[i]? = some v → (d :: ds)[i]? = some (PySem.W.minD d ds) → Q v H
theorem minDK (K : Frag) (hc : X.calm = true) (hu : X.A.units + 64 < cLine) (h : X.K = K := by rfl) : CallR X (.builtin "min") (rMinD K) := by
  subst h
  intro pins s σ H vs us Q I r h
  obtain ⟨a, xs, d, ds, rfl, hs, hD, ha, hdp, q⟩ := h
  obtain ⟨its, rv, hl, _⟩ := I.list hs
  rw [Vals.ref1 r]
  obtain ⟨as, hr⟩ := Dp.readsAll I (d :: ds) xs its hD rv
  refine PySem.W.min_list_data (vs := its.toArray) (I.ok.hd hc) hl.isList (show ReadsAll s.heap its.toArray.toList (d :: ds) as from hr) ha (by omega) fun i v h' tk bs hv r' hk => ?_
  have hv' : its[i]? = some v := by rw [← hv]; simp
  have hil : i < its.length := (List.getElem?_eq_some_iff.mp hv').1
  obtain ⟨x, hx⟩ : ∃ x, xs[i]? = some x := by
    have hlen := rv.length
    exact ⟨_, List.getElem?_eq_getElem (by omega)⟩
  obtain ⟨u, hu1, hu2⟩ := rv.get hx
  rw [hv'] at hu1
  injection hu1 with hu1
  subst hu1
  obtain ⟨cs, r1, hil2, hmem, _⟩ := PySem.W.readsAll_at hr i v hv'
  have hmin : PySem.W.minD d ds ∈ d :: ds := by
    unfold PySem.W.minD
    have key : ∀ (l : List PyData) (a : PyData), l.foldl (fun a y => if PySem.W.dataLt y a then y else a) a ∈ a :: l := fun l => by
      induction l with
      | nil => exact fun a => List.mem_cons_self
      | cons y l ih =>
        intro a
        rw [List.foldl_cons]
        have := ih (if PySem.W.dataLt y a then y else a)
        rcases List.mem_cons.mp this with h | h
        · rw [h]
          split
          · exact List.mem_cons_of_mem _ List.mem_cons_self
          · exact List.mem_cons_self
        · exact List.mem_cons_of_mem _ (List.mem_cons_of_mem _ h)
    exact key ds d
  have e : (d :: ds).getD i PyData.none = PySem.W.minD d ds := PySem.W.alike_unique _ _ v _ _ (ha.1 _ hmem _ hmin) (Reads.keeps hk r1) r'
  refine ⟨x, H, I.kept hk, hu2, q i x hx ?_⟩
  rw [← e, List.getD_eq_getElem?_getD, List.getElem?_eq_getElem hil2]
  rfl
end
/-! ### an order without ties -/
structure Lin (α : Type) [DecidableEq α] [PySem.W.DatumOrd α] : Prop where
  irr : ∀ a : α, PySem.W.DatumOrd.lt a a = false
  tr : ∀ a b c : α, PySem.W.DatumOrd.lt a b = true → PySem.W.DatumOrd.lt b c = true → PySem.W.DatumOrd.lt a c = true
  tot : ∀ a b : α, a ≠ b → PySem.W.DatumOrd.lt a b = true ∨ PySem.W.DatumOrd.lt b a = true
theorem lin_int : Lin Int := ⟨fun a => by show decide (a < a) = false; simp, fun a b c h1 h2 => by
  have h1 : decide (a < b) = true := h1
  have h2 : decide (b < c) = true := h2
  show decide (a < c) = true
  rw [decide_eq_true_eq] at *
  omega, fun a b h => by
  show decide (a < b) = true ∨ decide (b < a) = true
  rw [decide_eq_true_eq, decide_eq_true_eq]
  omega⟩
section
variable {α : Type} [DecidableEq α] [PySem.W.DatumOrd α]
theorem lex_irr (L : Lin α) : ∀ xs : List α, PySem.W.listLt xs xs = false
  | [] => rfl
  | x :: xs => by
    rw [PySem.W.listLt, if_pos rfl]
    exact lex_irr L xs
theorem lex_tr (L : Lin α) : ∀ xs ys zs : List α, PySem.W.listLt xs ys = true → PySem.W.listLt ys zs = true → PySem.W.listLt xs zs = true
  | [], [], _, h, _ => by cases h
  | [], _ :: _, [], _, h => by cases h
  | [], _ :: _, _ :: _, _, _ => rfl
  | _ :: _, [], _, h, _ => by cases h
  | _ :: _, _ :: _, [], _, h => by cases h
  | x :: xs, y :: ys, z :: zs, h1, h2 => by
    rw [PySem.W.listLt] at h1 h2 ⊢
    by_cases e1 : x = y
    · subst e1
      rw [if_pos rfl] at h1
      by_cases e2 : x = z
      · rw [if_pos e2] at h2 ⊢
        exact lex_tr L xs ys zs h1 h2
      · rw [if_neg e2] at h2 ⊢
        exact h2
    · rw [if_neg e1] at h1
      by_cases e2 : y = z
      · subst e2
        rw [if_neg e1]
        exact h1
      · rw [if_neg e2] at h2
        have h3 := L.tr x y z h1 h2
        by_cases e3 : x = z
        · subst e3
          rw [L.irr x] at h3
          cases h3
        · rw [if_neg e3]
          exact h3
theorem lex_tot (L : Lin α) : ∀ xs ys : List α, xs ≠ ys → PySem.W.listLt xs ys = true ∨ PySem.W.listLt ys xs = true
  | [], [], h => absurd rfl h
  | [], _ :: _, _ => .inl rfl
  | _ :: _, [], _ => .inr rfl
  | x :: xs, y :: ys, h => by
    rw [PySem.W.listLt, PySem.W.listLt]
    by_cases e : x = y
    · rw [if_pos e, if_pos e.symm]
      exact lex_tot L xs ys fun z => h (by rw [e, z])
    · rw [if_neg e, if_neg (Ne.symm e)]
      exact L.tot x y e
theorem lin_list (L : Lin α) : Lin (List α) := ⟨lex_irr L, lex_tr L, lex_tot L⟩
theorem minOf_mem : ∀ (xs : List α) (x : α), PySem.W.minOf x xs ∈ x :: xs
  | [], x => List.mem_cons_self
  | y :: xs, x => by
    have e : PySem.W.minOf x (y :: xs) = PySem.W.minOf (if PySem.W.DatumOrd.lt y x = true then y else x) xs := rfl
    rw [e]
    rcases List.mem_cons.mp (minOf_mem xs (if PySem.W.DatumOrd.lt y x = true then y else x)) with h | h
    · rw [h]
      split
      · exact List.mem_cons_of_mem _ List.mem_cons_self
      · exact List.mem_cons_self
    · exact List.mem_cons_of_mem _ (List.mem_cons_of_mem _ h)
theorem lin_nlt (L : Lin α) {a b c : α} (h1 : PySem.W.DatumOrd.lt b a = false) (h2 : PySem.W.DatumOrd.lt c b = false) : PySem.W.DatumOrd.lt c a = false := by
  by_cases e1 : a = b
  · rw [e1]; exact h2
  · by_cases e2 : b = c
    · rw [← e2]; exact h1
    · have h3 := (L.tot a b e1).resolve_right (by rw [h1]; decide)
      have h4 := (L.tot b c e2).resolve_right (by rw [h2]; decide)
      have h5 := L.tr a b c h3 h4
      cases h : PySem.W.DatumOrd.lt c a with
      | false => rfl
      | true =>
        have := L.tr a c a h5 h
        rw [L.irr a] at this
        cases this
theorem minOf_le (L : Lin α) : ∀ (xs : List α) (x : α), ∀ y ∈ x :: xs, PySem.W.DatumOrd.lt y (PySem.W.minOf x xs) = false
  | [], x, y, hy => by
    rw [List.mem_singleton.mp hy]
    exact L.irr x
  | z :: xs, x, y, hy => by
    have e : PySem.W.minOf x (z :: xs) = PySem.W.minOf (if PySem.W.DatumOrd.lt z x = true then z else x) xs := rfl
    rw [e]
    have ih := minOf_le L xs (if PySem.W.DatumOrd.lt z x = true then z else x)
    rcases List.mem_cons.mp hy with rfl | hy
    · have h1 := ih _ List.mem_cons_self
      refine lin_nlt L h1 ?_
      split
      · rename_i h
        cases h2 : PySem.W.DatumOrd.lt y z with
        | false => rfl
        | true =>
          have := L.tr _ _ _ h h2
          rw [L.irr] at this
          cases this
      · exact L.irr y
    · rcases List.mem_cons.mp hy with rfl | hy
      · have h1 := ih _ List.mem_cons_self
        refine lin_nlt L h1 ?_
        split
        · exact L.irr y
        · rename_i h
          simpa using h
      · exact ih y (List.mem_cons_of_mem _ hy)
theorem min_uniq (L : Lin α) {x x' : α} {xs xs' : List α} (h : ∀ y, y ∈ x :: xs ↔ y ∈ x' :: xs') : PySem.W.minOf x xs = PySem.W.minOf x' xs' := by
  have h1 := minOf_le L xs x _ ((h _).mpr (minOf_mem xs' x'))
  have h2 := minOf_le L xs' x' _ ((h _).mp (minOf_mem xs x))
  by_cases e : PySem.W.minOf x xs = PySem.W.minOf x' xs'
  · exact e
  · rcases L.tot _ _ e with z | z
    · rw [h2] at z; cases z
    · rw [h1] at z; cases z
theorem toD_inj {a b : α} (h : PySem.W.Datum.toD a = PySem.W.Datum.toD b) : a = b := by
  have h1 := PySem.W.Datum.eqv a b
  rw [h, PySem.W.Datum.eqv b b] at h1
  exact of_decide_eq_true (by rw [← h1]; simp)
end
abbrev Mat := List (List Int)
theorem lin_M : Lin Mat := lin_list (lin_list lin_int)
/-- the least of them, none of none -/
def minL : List Mat → Mat
  | [] => []
  | x :: xs => PySem.W.minOf x xs
theorem minL_mem {l : List Mat} (h : l ≠ []) : minL l ∈ l := by
  cases l with
  | nil => exact absurd rfl h
  | cons x xs => exact minOf_mem xs x
theorem minL_eq {l l' : List Mat} (h : ∀ y, y ∈ l ↔ y ∈ l') : minL l = minL l' := by
  cases l with
  | nil =>
    cases l' with
    | nil => rfl
    | cons x xs => exact absurd ((h x).mpr List.mem_cons_self) (by simp)
  | cons x xs =>
    cases l' with
    | nil => exact absurd ((h x).mp List.mem_cons_self) (by simp)
    | cons y ys => exact min_uniq lin_M h
section
variable {K : Frag} {σ : St} {H : Hp} {te : TE}
theorem dpAll_RM {H1 H2 : Hp} {M : Nat → Mat} : ∀ {vs : List V} {idx : List Nat}, Paired (fun v j => RM (M j) H1 H2 v) vs idx → DpAll K H2 vs (idx.map fun j => PySem.W.Datum.toD (M j))
  | _, _, .nil => .nil
  | _, _, .cons ⟨_, hv, hO⟩ t => by
    subst hv
    exact .cons hO.lli.dp (dpAll_RM t)
theorem er_minRM {idx : List Nat} {M : Nat → Mat} (h : Er te σ H (RLs idx fun i => RM (M i))) (hne : idx ≠ []) : Er (tCB (rMinD K) (tCons te tNil)) σ H (RM (minL (idx.map M))) := fun H1 e Q q =>
  h H1 e _ fun v H2 e2 ⟨p, vs, hv, hp, hp2, hP⟩ => by
    subst hv
    cases idx with
    | nil => exact absurd rfl hne
    | cons i0 idx =>
      have hmap : ∀ l : List Nat, (l.map fun j => (PySem.W.Datum.toD (M j) : PyData)) = (l.map M).map PySem.W.Datum.toD := fun l => by rw [List.map_map]; rfl
      have hD := dpAll_RM (K := K) hP
      rw [hmap] at hD
      refine ⟨p, vs, PySem.W.Datum.toD (M i0), (idx.map M).map PySem.W.Datum.toD, rfl, sq_of hp2, hD, ⟨fun x hx y hy => ?_, fun x hx => ?_⟩, ?_, fun i v hvi hdi => ?_⟩
      · obtain ⟨x, _, rfl⟩ := List.mem_map.mp (show x ∈ (M i0 :: idx.map M).map PySem.W.Datum.toD from hx)
        obtain ⟨y, _, rfl⟩ := List.mem_map.mp (show y ∈ (M i0 :: idx.map M).map PySem.W.Datum.toD from hy)
        exact PySem.W.DatumOrd.alike x y
      · obtain ⟨x, _, rfl⟩ := List.mem_map.mp (show x ∈ (M i0 :: idx.map M).map PySem.W.Datum.toD from hx)
        exact PySem.W.DatumOrd.notNone x
      · exact Nat.le_trans (PySem.W.depthAll_map (M i0 :: idx.map M)) (by decide)
      · obtain ⟨j, hj1, hj2⟩ := paired_getL hP hvi
        rw [PySem.W.minD_map] at hdi
        have h3 : ((M i0 :: idx.map M).map PySem.W.Datum.toD)[i]? = some (PySem.W.Datum.toD (PySem.W.minOf (M i0) (idx.map M))) := hdi
        rw [← List.map_cons, List.getElem?_map, List.getElem?_map, hj1] at h3
        have h4 : PySem.W.Datum.toD (M j) = PySem.W.Datum.toD (PySem.W.minOf (M i0) (idx.map M)) := Option.some.inj h3
        have h5 : M j = minL ((i0 :: idx).map M) := toD_inj h4
        refine q v H2 e2 ?_
        rw [← h5]
        exact hj2
end
end AT

/-! ## // of any size; [.. for x, y in zip(a, b)]; rows put in their place -/
namespace AT
open PySem PySem.Spec PyProof.Rows L2 Evl
def CFdX (_ j : Int) : Prop := j ≠ 0 ∧ j.natAbs.log2 < 9000
theorem op_fdivX {X : Cx} : OpR X (binaryOp .FloorDiv) (rI CFdX fun i j => .int (i.fdiv j)) := opI fun _ _ _ _ _ _ _ hc q => floordiv_int hc.1 q (.inl (PyProof.noPylong_of_log2 hc.2))
section
variable {K : Frag} {σ : St} {H H0 : Hp} {te ta tb : TE} {a b p : Addr} {D : Ends} {tz : TS}
theorem el_lcZ {tA : TA} {i1 i2 : Nat} {vs : List Nat} {xs ys : List V} (v : Nat → V) (h : EvA tA σ H [.ref a, .ref b]) (ha : SqL K H a xs) (hb : SqL K H b ys) (hl : xs.length = ys.length) (hz : xs.length ≤ 40000)
    (hw : ∀ x y, wipe (((wipe σ vs).set i1 (some x)).set i2 (some y)) vs = wipe σ vs)
    (he : ∀ (i : Nat) x y H1, Ex H H1 → xs[i]? = some x → ys[i]? = some y → Ev te (((wipe σ vs).set i1 (some x)).set i2 (some y)) H1 (v i)) :
    EvL (tLc (iZip K tA) (gTup K 2 (gCons (gName i1) (gCons (gName i2) gNil))) tYes te vs) σ H (given xs.length (fun _ => true) v) := fun H0 e Q q => h H0 e _ fun H1 e1 =>
  ⟨a, b, xs, ys, rfl, ex_l (e.trans e1) ha, ex_l (e.trans e1) hb, fun Dl hD =>
    lc_it (walk_zip (xs := xs) (ys := ys) (n := xs.length) (by omega)) (Cw H1 (fun _ => true) v Dl) ⟨hD, Ex.new hD, upd_same⟩ (fun i H' _ p => ⟨ex_l ((e.trans e1).trans p.2.1) ha, ex_l ((e.trans e1).trans p.2.1) hb⟩)
      (fun i z H' H'' hi p ⟨T, x, y, hz', hT, hH, hx, hy⟩ => by
        subst hz'; subst hH
        have eT : Ex H' (upd H' T (.tup [x, y])) := Ex.new hT
        refine ⟨T, [x, y], rfl, st_of upd_same, rfl, x, [y], rfl, y, [], rfl, rfl, hw x y, ?_⟩
        exact cw_turn (f := fun _ => true) ⟨p.1, p.2.1.trans eT, eT _ _ p.2.2⟩ (by omega) (fun G1 g1 Q' q' => q' G1 (Ex.refl _)) fun _ => he i x y H1 (e.trans e1) hx hy)
      (fun H' p => q Dl H' (fresh_back e1 p.1) (e1.trans p.2.1) p.2.2)⟩
theorem given_all (n : Nat) (w : Nat → Int) : given n (fun _ => true) (fun j => .int (w j)) = ((List.range n).map w).map V.int := by
  unfold given
  rw [filt_all, List.map_map]
  rfl
/-- rows of our own list: each may stand anywhere, but not in the list's place -/
def RA (H0 H : Hp) (p : Addr) (M : List (List Int)) : Prop := H0 p = none ∧ ∃ as : List Addr, H p = some (.lst (as.map V.ref)) ∧ p ∉ as ∧ Paired (fun x r => H x = some (.lst (r.map V.int))) as M
theorem RA.mono {H' : Hp} {M : List (List Int)} (e : Ex H H') (h : RA H0 H p M) : RA H0 H' p M := by
  obtain ⟨h0, as, h1, h2, h3⟩ := h
  exact ⟨h0, as, e _ _ h1, h2, paired_mono h3 fun x r z => e _ _ z⟩
theorem RA.lli {M : List (List Int)} (h : RA H0 H p M) : LLI K H p M := by
  obtain ⟨h0, as, h1, h2, h3⟩ := h
  exact ⟨as, sq_of h1, paired_mono h3 fun x r z => sq_of z⟩
theorem OLLI.ra {M : List (List Int)} (h : OLLI H0 H p M) : RA H0 H p M := by
  obtain ⟨as, h1, h2, h3, h4⟩ := h
  rw [List.nodup_cons] at h3
  exact ⟨h1, as, h2, h3.1, paired_mono h4 fun x r z => z.2⟩
theorem paired_put {α β : Type} {F : α → β → Prop} : ∀ {l₁ : List α} {l₂ : List β} {i : Nat} {x : α} {y : β}, Paired F l₁ l₂ → F x y → Paired F (l₁.set i x) (l₂.set i y)
  | _, _, _, _, _, .nil, _ => .nil
  | _, _, 0, _, _, .cons _ t, h => .cons h t
  | _, _, i + 1, _, _, .cons r t, h => .cons r (paired_put t h)
/-- p[i] = a list of ints -/
theorem RA.put {M : List (List Int)} {i : Nat} (h : RA H0 H p M) : ∃ vs : List V, H p = some (.lst vs) ∧ vs.length = M.length ∧ ∀ H1 r row, Ex H H1 → H1 r = some (.lst (row.map V.int)) → r ≠ p → RA H0 (upd H1 p (.lst (vs.set i (.ref r)))) p (M.set i row) := by
  obtain ⟨h0, as, h1, h2, h3⟩ := h
  refine ⟨as.map V.ref, h1, by rw [List.length_map, h3.length], fun H1 r row e hr hne => ⟨h0, as.set i r, by rw [upd_same, List.map_set], ?_, ?_⟩⟩
  · intro hm
    rcases List.mem_or_eq_of_mem_set hm with hm | hm
    · exact h2 hm
    · exact hne hm.symm
  · have h4 : Paired (fun x r => H1 x = some (.lst (r.map V.int))) (as.set i r) (M.set i row) := paired_put (paired_mono h3 fun x r z => e _ _ z) hr
    refine paired_mem_mono h4 fun x r' hx z => ?_
    rw [upd_ne]
    · exact z
    · intro hxp
      subst hxp
      rcases List.mem_or_eq_of_mem_set hx with hm | hm
      · exact h2 hm
      · exact hne hm.symm
theorem s_setRow {M : List (List Int)} {i : Nat} {row : List Int} (h : RA H0 H p M) (he : EvL te σ H (row.map V.int)) (ho : Ev ta σ H (.ref p)) (hi : Ev tb σ H (.int (i : Int))) (hin : i < M.length) (e0 : Ex H0 H)
    (k : ∀ H1, Ex H0 H1 → RA H0 H1 p (M.set i row) → D.nx σ H1) : tAsg te (gSub ta tb rSetL) D σ H := by
  obtain ⟨vs, h1, h2, h3⟩ := h.put (i := i)
  refine he H (Ex.refl H) _ fun r H1 hr e1 hr1 => ho H1 e1 _ fun H2 e2 => hi H2 (e1.trans e2) _ fun H3 e3 => ?_
  have hne : r ≠ p := fun z => by
    subst z
    rw [h1] at hr
    cases hr
  exact ⟨p, vs, (i : Int), i, rfl, rfl, ((e1.trans e2).trans e3) p _ h1, ixN_nat (by omega), k _ (Ex.mut (((e0.trans e1).trans e2).trans e3) h.1) (h3 _ _ _ ((e1.trans e2).trans e3) ((e2.trans e3) _ _ hr1) hne)⟩
/-- p[i] = r, a row that stands -/
theorem q_setRef {M : List (List Int)} {i : Nat} {r : Addr} {row : List Int} (h : RA H0 H p M) (he : Ev te σ H (.ref r)) (hr : H r = some (.lst (row.map V.int))) (hne : r ≠ p) (ho : Ev ta σ H (.ref p)) (hi : Ev tb σ H (.int (i : Int))) (hin : i < M.length) (e0 : Ex H0 H)
    (k : ∀ H1, Ex H0 H1 → RA H0 H1 p (M.set i row) → (∀ (x : Addr) o, x ≠ p → H x = some o → H1 x = some o) → tz D σ H1) : tSeq (tAsg te (gSub ta tb rSetL)) tz D σ H := by
  obtain ⟨vs, h1, h2, h3⟩ := h.put (i := i)
  refine he H (Ex.refl H) _ fun H1 e1 => ho H1 e1 _ fun H2 e2 => hi H2 (e1.trans e2) _ fun H3 e3 => ?_
  exact ⟨p, vs, (i : Int), i, rfl, rfl, ((e1.trans e2).trans e3) p _ h1, ixN_nat (by omega), k _ (Ex.mut (((e0.trans e1).trans e2).trans e3) h.1) (h3 _ _ _ ((e1.trans e2).trans e3) (((e1.trans e2).trans e3) _ _ hr) hne) fun x o hx hH => by
    rw [upd_ne hx]
    exact ((e1.trans e2).trans e3) _ _ hH⟩
end
end AT

/-! ## a op b op c op d; sorted of data; in, not in, index of data -/
theorem L2.Room.units65 {k : Nat} {A : PySem.Around} (r : L2.Room k A) : A.units + 65 < PySem.cLine := by have := r.un; omega
namespace AT
open PySem PySem.Spec PyProof.Rows L2 Evl
section
variable {X : Cx} {a b c d : Expr} {ta tb tc td : TE} {pos : Pos}
def tChain3 (r r' r'' : R2) (ta tb tc td : TE) : TE := fun σ H Q => ta σ H fun x H1 => tb σ H1 fun y H2 => r x y H2 fun z H3 => ∃ k, z = .bl k ∧
  (if k = true then tc σ H3 fun w' H4 => r' y w' H4 fun z' H5 => ∃ k', z' = .bl k' ∧ (if k' = true then td σ H5 fun u' H6 => r'' w' u' H6 Q else Q (.bl false) H5) else Q (.bl false) H3)
theorem pe_chain3 {op op' op'' : CmpOp} {r r' r'' : R2} (ho : OpR X (compareOp op) r) (ho' : OpR X (compareOp op') r') (ho'' : OpR X (compareOp op'') r'') (ha : PE X a ta) (hb : PE X b tb) (hc : PE X c tc) (hd : PE X d td)
    (hm : lastMarks [op, op', op''] [b, c, d] = false := by with_unfolding_all rfl) : PE X (.Compare a [op, op', op''] [b, c, d] pos) (tChain3 r r' r'' ta tb tc td) := by
  refine ⟨fun pins s σ H Q I h => ?_⟩
  refine Compare_chain (thn (ha.run pins s σ H _ I h) fun v s1 ⟨x, H1, I1, r1, q1⟩ => chain_link (thn (hb.run pins s1 σ H1 _ I1 q1) fun u s2 ⟨y, H2, I2, r2, q2⟩ =>
    thn (ho pins s2 σ H2 x y v u _ I2 r1 r2 q2) fun d' s3 ⟨z, H3, I3, r3, k, e, q3⟩ => ?_)) hm
  subst e
  cases r3
  refine wpAny_truthy_bool ?_
  cases k with
  | false => exact ite_ff ⟨.bl false, H3, I3, rfl, q3⟩
  | true =>
    refine ite_tt (chain_link (thn (hc.run pins s3 σ H3 _ I3 q3) fun w' s4 ⟨z', H4, I4, r4, q4⟩ => thn (ho' pins s4 σ H4 y z' u w' _ I4 r2 r4 q4) fun d2 s5 ⟨z2, H5, I5, r5, k2, e2, q5⟩ => ?_))
    subst e2
    cases r5
    refine wpAny_truthy_bool ?_
    cases k2 with
    | false => exact ite_ff ⟨.bl false, H5, I5, rfl, q5⟩
    | true => exact ite_tt (chain_last (thn (hd.run pins s5 σ H5 _ I5 q5) fun w2 s6 ⟨z3, H6, I6, r6, q6⟩ => ho'' pins s6 σ H6 z' z3 w' w2 Q I6 r4 r6 q6))
theorem inDK (K : Frag) (hu : X.A.units + 65 < cLine) (h : X.K = K := by rfl) : OpR X (compareOp .In) (rInD K) := by subst h; exact op_inD hu
theorem ninDK (K : Frag) (hu : X.A.units + 65 < cLine) (h : X.K = K := by rfl) : OpR X (compareOp .NotIn) (rNotInD K) := by subst h; exact op_notInD hu
theorem mt_indexDK (K : Frag) (hu : X.A.units + 65 < cLine) (h : X.K = K := by rfl) : MtR X "list.index" (rIndexD K) := by subst h; exact mt_indexD hu
/-- sorted(xs) of data: the same items in order -/
def rSortedD (K : Frag) : List V → Hp → VK → Prop := fun vs H Q => ∃ (a : Addr) (bs : List (V × PyData)), vs = [V.ref a] ∧ SqL K H a (bs.map (·.1)) ∧ DpAll K H (bs.map (·.1)) (bs.map (·.2)) ∧ PySem.W.AllAlike (bs.map (·.2)) ∧ PySem.W.Sortable (bs.map (·.2)) ∧
  bs.length ≤ 100000 ∧ (∀ b, b ∈ bs → b.2.depth ≤ 60) ∧ ∀ p, H p = none → Q (.ref p) (upd H p (.lst ((bs.mergeSort (PySem.W.dataLe false (·.2))).map (·.1))))
theorem each_vals : ∀ {bs : List (V × PyData)} {us : List Value}, Vals (bs.map (·.1)) us → PySem.W.EachIs (fun v (b : V × PyData) => RelV b.1 v) us bs
  | [], _, h => by cases h; exact .nil
  | b :: bs, _, h => by
    cases h with
    | cons r t => exact .cons r (each_vals t)
theorem vals_each : ∀ {bs : List (V × PyData)} {us : List Value}, PySem.W.EachIs (fun v (b : V × PyData) => RelV b.1 v) us bs → Vals (bs.map (·.1)) us
  | [], _, h => by cases h; exact .nil
  | b :: bs, _, h => by
    cases h with
    | cons r t => exact .cons r (vals_each t)
theorem each_reads {h : Heap} : ∀ {bs : List (V × PyData)} {us : List Value} {as : List Addr}, ReadsAll h us (bs.map (·.2)) as → PySem.W.EachIs (fun v (b : V × PyData) => ∃ as, Reads h v b.2 as) us bs
  | [], _, _, h => by cases h; exact .nil
  | b :: bs, _, _, h => by
    cases h with
    | cons r t => exact .cons ⟨_, r⟩ (each_reads t)
theorem sortedDK (K : Frag) (hu : X.A.units + 64 < cLine) (h : X.K = K := by rfl) : CallR X (.builtin "sorted") (rSortedD K) := by
  subst h
  intro pins s σ H vs us Q I r h
  obtain ⟨a, bs, rfl, hs, hD, hal, hk, hl0, hdp, q⟩ := h
  obtain ⟨its, rv, hl, _⟩ := I.list hs
  rw [Vals.ref1 r]
  obtain ⟨as, hr⟩ := Dp.readsAll I (bs.map (·.2)) _ its hD rv
  refine PySem.W.sorted_data (vs := its) (bs := bs) (enc := fun b => b.2) (R := fun v b => RelV b.1 v) hl.isList (each_vals rv) (each_reads hr) hal hk (Nat.le_trans hl0 (by decide)) (fun b hb => by have := hdp b hb; omega) fun out hlen hout => ?_
  obtain ⟨ep, he'⟩ := PyProof.Rows.sortedAll_at s.heap its out.toArray
  have hlen2 : ((bs.mergeSort (PySem.W.dataLe false (·.2))).map (·.1)).length ≤ sizeLine := by rw [List.length_map, List.length_mergeSort]; exact Nat.le_trans hl0 (by decide)
  exact ⟨.ref _, upd H (s.heap.objs.size + 1) (.lst ((bs.mergeSort (PySem.W.dataLe false (·.2))).map (·.1))), I.laid (t' := s.toks) (fun _ _ => PyProof.Rows.sortedAll_old) (Nat.le_succ _) ⟨hlen2, out, ep, vals_each hout, he'⟩, rfl, q _ (I.hok.fresh (Nat.le_succ _))⟩
end
end AT

/-! ## lists of pairs of ints -/
namespace AT
open PySem PySem.Spec PyProof.Rows L2 Evl
abbrev Ln := Int × Int
def ltP (p q : Ln) : Bool := PySem.W.DatumOrd.lt p q
def PT (K : Frag) (H : Hp) (x : Addr) (p : Ln) : Prop := SqT K H x [V.int p.1, V.int p.2]
def LP (K : Frag) (H : Hp) (a : Addr) (ls : List Ln) : Prop := ∃ as : List Addr, SqL K H a (as.map V.ref) ∧ Paired (fun x p => PT K H x p) as ls
/-- a new list of them -/
def OLP (K : Frag) (H0 H : Hp) (a : Addr) (ls : List Ln) : Prop := H0 a = none ∧ ∃ as : List Addr, H a = some (.lst (as.map V.ref)) ∧ Paired (fun x p => PT K H x p) as ls
def RLP (K : Frag) (ls : List Ln) : R3 := fun H1 H2 v => ∃ p, v = .ref p ∧ OLP K H1 H2 p ls
theorem idx_firstG {α : Type} [BEq α] [LawfulBEq α] : ∀ {xs : List α} {k z : α} {m : Nat}, m < xs.idxOf k → xs[m]? = some z → z ≠ k
  | [], _, _, _, _, hz => by simp at hz
  | x :: xs, k, z, m, hm, hz => by
    rw [List.idxOf_cons] at hm
    by_cases e : x = k
    · subst e
      simp at hm
    · have e2 : (x == k) = false := by simpa using e
      rw [e2] at hm
      cases m with
      | zero =>
        have : x = z := by simpa using hz
        rw [← this]
        exact e
      | succ m => exact idx_firstG (xs := xs) (m := m) (by simpa using hm) (by simpa using hz)
section
variable {K : Frag} {H H0 H1 H2 : Hp} {σ : St} {a x y : Addr} {p q : Ln} {ls : List Ln} {ta tb te : TE}
theorem PT.mono (e : Ex H H1) (h : PT K H x p) : PT K H1 x p := ex_t e h
theorem LP.mono (e : Ex H H1) (h : LP K H a ls) : LP K H1 a ls := by
  obtain ⟨as, h1, h2⟩ := h
  exact ⟨as, ex_l e h1, paired_mono h2 fun _ _ z => z.mono e⟩
theorem OLP.lp (h : OLP K H0 H a ls) : LP K H a ls := by
  obtain ⟨_, as, h1, h2⟩ := h
  exact ⟨as, sq_of h1, h2⟩
theorem OLP.mono (e : Ex H H1) (h : OLP K H0 H a ls) : OLP K H0 H1 a ls := by
  obtain ⟨h0, as, h1, h2⟩ := h
  exact ⟨h0, as, e _ _ h1, paired_mono h2 fun _ _ z => z.mono e⟩
theorem OLP.back (e : Ex H0 H1) (h : OLP K H1 H a ls) : OLP K H0 H a ls := ⟨fresh_back e h.1, h.2⟩
theorem mon_RLP {ls : List Ln} : Mon (RLP K ls) := ⟨fun e ⟨p, h, q⟩ => ⟨p, h, q.mono e⟩, fun e ⟨p, h, q⟩ => ⟨p, h, q.back e⟩⟩
theorem PT.dp (h : PT K H x p) : Dp K H (.ref x) (PySem.W.Datum.toD p) := .tup h (.cons (.int _) (.cons (.int _) .nil))
theorem dpAll_lines : ∀ {as : List Addr} {ls : List Ln}, Paired (fun x p => PT K H x p) as ls → DpAll K H (as.map V.ref) (ls.map PySem.W.Datum.toD)
  | _, _, .nil => .nil
  | _, _, .cons r t => .cons r.dp (dpAll_lines t)
theorem LP.dp (h : LP K H a ls) : Dp K H (.ref a) (.list (ls.map PySem.W.Datum.toD)) := by
  obtain ⟨as, h1, h2⟩ := h
  exact .lst h1 (dpAll_lines h2)
theorem LP.len (h : LP K H a ls) : ∃ as : List Addr, SqL K H a (as.map V.ref) ∧ as.length = ls.length := by
  obtain ⟨as, h1, h2⟩ := h
  exact ⟨as, h1, h2.length⟩
theorem ev_lenLP (ha : Ev ta σ H (.ref a)) (h : LP K H a ls) : Ev (tCB (rLenS K) (tCons ta tNil)) σ H (.int (ls.length : Int)) := by
  obtain ⟨as, h1, h2⟩ := h.len
  have := ev_len (K := K) ha h1
  rw [List.length_map, h2] at this
  exact this
theorem LP.at {i : Nat} (h : LP K H a ls) (hp : ls[i]? = some p) : ∃ x, RV (rIxL K) (.ref a) (.int (i : Int)) H (.ref x) ∧ PT K H x p := by
  obtain ⟨as, h1, h2⟩ := h
  obtain ⟨x, hx, hq⟩ := paired_get h2 hp
  exact ⟨x, rv_ixL h1 (atI_n (by rw [List.getElem?_map, hx]; rfl)), hq⟩
theorem ev_p1 (ha : Ev ta σ H (.ref x)) (hb : Ev tb σ H (.int 0)) (h : PT K H x p) : Ev (tOp (rIxT K) ta tb) σ H (.int p.1) := ev_op ha hb (rv_ixT h rfl)
theorem ev_p2 (ha : Ev ta σ H (.ref x)) (hb : Ev tb σ H (.int 1)) (h : PT K H x p) : Ev (tOp (rIxT K) ta tb) σ H (.int p.2) := ev_op ha hb (rv_ixT h rfl)
theorem canLay_lines : ∀ ls : List Ln, PyData.canLayAll0 (ls.map PySem.W.Datum.toD) = true
  | [] => by simp [PyData.canLayAll0]
  | p :: ls => by
    have h : PyData.canLay0 (PySem.W.Datum.toD p) = true := by
      show PyData.canLay0 (.tuple [.int p.1, .int p.2]) = true
      simp [PyData.canLay0, PyData.canLayAll0]
    simp only [List.map_cons, PyData.canLayAll0, h, canLay_lines ls, Bool.and_self]
theorem shaped_P (p : Ln) : SeqAt.shaped (PySem.W.Datum.toD p) = true := by
  show SeqAt.shaped (.tuple [.int p.1, .int p.2]) = true
  unfold SeqAt.shaped
  rw [Bool.and_eq_true]
  exact ⟨by simp [PyData.canLay0, PyData.canLayAll0], decide_eq_true (by simp [PyData.depth, PyData.depthAll])⟩
theorem shaped_LP (ls : List Ln) : SeqAt.shaped (.list (ls.map PySem.W.Datum.toD)) = true := by
  unfold SeqAt.shaped
  rw [Bool.and_eq_true]
  have h2 : PyData.depthAll (ls.map (PySem.W.Datum.toD : Ln → PyData)) ≤ 1 := PySem.W.depthAll_map ls
  refine ⟨by simp only [PyData.canLay0]; exact canLay_lines ls, decide_eq_true ?_⟩
  simp only [PyData.depth]
  omega
theorem rv_eqP (hx : PT K H x p) (hy : PT K H y q) : RV (rEqD K) (.ref x) (.ref y) H (.bl (decide (p = q))) := fun G g Q k =>
  ⟨_, _, (hx.mono g).dp, (hy.mono g).dp, shaped_P p, shaped_P q, by rw [PySem.W.Datum.eqv]; exact k G (Ex.refl _)⟩
theorem rv_neP (hx : PT K H x p) (hy : PT K H y q) : RV (rNeD K) (.ref x) (.ref y) H (.bl (!decide (p = q))) := fun G g Q k =>
  ⟨_, _, (hx.mono g).dp, (hy.mono g).dp, shaped_P p, shaped_P q, by rw [PySem.W.Datum.eqv]; exact k G (Ex.refl _)⟩
theorem rv_geP (hx : PT K H x p) (hy : PT K H y q) : RV (rGeD K) (.ref x) (.ref y) H (.bl (!ltP p q)) := rv_geD (a := p) (b := q) (fun G g => (hx.mono g).dp) (fun G g => (hy.mono g).dp) (by decide)
theorem any_lines (p : Ln) : ∀ ls : List Ln, ((ls.map PySem.W.Datum.toD).any fun z => PyData.eqv z (PySem.W.Datum.toD p)) = decide (p ∈ ls)
  | [] => by simp
  | q :: ls => by
    rw [List.map_cons, List.any_cons, any_lines p ls, PySem.W.Datum.eqv]
    by_cases h : q = p
    · subst h; simp
    · have : ¬ p = q := fun z => h z.symm
      simp [h, this]
theorem rv_inP (hx : PT K H x p) (ha : LP K H a ls) : RV (rInD K) (.ref x) (.ref a) H (.bl (decide (p ∈ ls))) := fun G g Q k =>
  ⟨_, _, (hx.mono g).dp, (ha.mono g).dp, shaped_P p, shaped_LP ls, by rw [any_lines]; exact k G (Ex.refl _)⟩
theorem rv_ninP (hx : PT K H x p) (ha : LP K H a ls) : RV (rNotInD K) (.ref x) (.ref a) H (.bl (!decide (p ∈ ls))) := fun G g Q k =>
  ⟨_, _, (hx.mono g).dp, (ha.mono g).dp, shaped_P p, shaped_LP ls, by rw [any_lines]; exact k G (Ex.refl _)⟩
theorem rv_eqLP {b : Addr} {ms : List Ln} (ha : LP K H a ls) (hb : LP K H b ms) : RV (rEqD K) (.ref a) (.ref b) H (.bl (decide (ls = ms))) := fun G g Q k =>
  ⟨_, _, (ha.mono g).dp, (hb.mono g).dp, shaped_LP ls, shaped_LP ms, by
    have := PySem.W.Datum.eqv ls ms
    have e : PyData.eqv (.list (ls.map PySem.W.Datum.toD)) (.list (ms.map PySem.W.Datum.toD)) = decide (ls = ms) := this
    rw [e]; exact k G (Ex.refl _)⟩
theorem rv_neLP {b : Addr} {ms : List Ln} (ha : LP K H a ls) (hb : LP K H b ms) : RV (rNeD K) (.ref a) (.ref b) H (.bl (!decide (ls = ms))) := fun G g Q k =>
  ⟨_, _, (ha.mono g).dp, (hb.mono g).dp, shaped_LP ls, shaped_LP ms, by
    have := PySem.W.Datum.eqv ls ms
    have e : PyData.eqv (.list (ls.map PySem.W.Datum.toD)) (.list (ms.map PySem.W.Datum.toD)) = decide (ls = ms) := this
    rw [e]; exact k G (Ex.refl _)⟩
/-- ls.index(p) -/
theorem ev_indexP (ha : Ev ta σ H (.ref a)) (hb : Ev tb σ H (.ref x)) (hL : LP K H a ls) (hx : PT K H x p) (hm : p ∈ ls) : Ev (tBM K "list" (rIndexD K) ta (tCons tb tNil)) σ H (.int ((ls.idxOf p : Nat) : Int)) := fun G g Q k =>
  ha G g _ fun G2 g2 => by
    obtain ⟨as, h1, _⟩ := id hL
    refine ⟨.inl ⟨rfl, _, ex_l (g.trans g2) h1⟩, hb G2 (g.trans g2) _ fun G3 g3 => ?_⟩
    have hl := List.idxOf_lt_length_iff.mpr hm
    refine ⟨a, .ref x, _, _, ls.idxOf p, PySem.W.Datum.toD p, rfl, rfl, (hL.mono ((g.trans g2).trans g3)).dp, (hx.mono ((g.trans g2).trans g3)).dp, shaped_LP ls, shaped_P p, ?_, ?_, fun m z' hm' hz => ?_, k G3 (g2.trans g3)⟩
    · rw [List.getElem?_map, List.getElem?_eq_getElem hl, List.getElem_idxOf]
      rfl
    · rw [PySem.W.Datum.eqv]; simp
    · rw [List.getElem?_map] at hz
      cases hq : ls[m]? with
      | none => rw [hq] at hz; cases hz
      | some q =>
        rw [hq] at hz
        cases hz
        rw [PySem.W.Datum.eqv]
        refine decide_eq_false fun e => ?_
        exact idx_firstG hm' hq e
end
/-! ### in order -/
def leP (p q : Ln) : Bool := !ltP q p
def sortP (ls : List Ln) : List Ln := ls.mergeSort leP
section
variable {K : Frag} {H H1 : Hp} {σ : St} {a : Addr} {ls : List Ln} {te : TE}
theorem zip_of : ∀ {as : List Addr} {ls : List Ln}, as.length = ls.length → as = (as.zip ls).map (·.1) ∧ ls = (as.zip ls).map (·.2)
  | [], [], _ => ⟨rfl, rfl⟩
  | [], _ :: _, h => by simp at h
  | _ :: _, [], h => by simp at h
  | x :: as, p :: ls, h => by
    obtain ⟨h1, h2⟩ := zip_of (as := as) (ls := ls) (by simpa using h)
    exact ⟨by rw [List.zip_cons_cons, List.map_cons, ← h1], by rw [List.zip_cons_cons, List.map_cons, ← h2]⟩
theorem paired_zip {F : Addr → Ln → Prop} : ∀ {as : List Addr} {ls : List Ln}, Paired F as ls → ∀ z ∈ as.zip ls, F z.1 z.2
  | _, _, .nil, z, h => by simp at h
  | _, _, .cons r t, z, h => by
    rw [List.zip_cons_cons] at h
    rcases List.mem_cons.mp h with rfl | h
    · exact r
    · exact paired_zip t z h
theorem paired_of_zip {F : Addr → Ln → Prop} : ∀ {zs : List (Addr × Ln)}, (∀ z ∈ zs, F z.1 z.2) → Paired F (zs.map (·.1)) (zs.map (·.2))
  | [], _ => .nil
  | z :: zs, h => .cons (h z List.mem_cons_self) (paired_of_zip fun y hy => h y (List.mem_cons_of_mem _ hy))
theorem er_sortedP {R : R3} (h : Er te σ H R) (hR : ∀ G1 G2 v, R G1 G2 v → ∃ b, v = .ref b ∧ LP K G2 b ls) (hl : ls.length ≤ 10000) : Er (tCB (rSortedD K) (tCons te tNil)) σ H (RLP K (sortP ls)) := fun H1 e Q q =>
  h H1 e _ fun v H2 e2 hv => by
    obtain ⟨b, rfl, as, h1, h2⟩ := hR H1 H2 v hv
    obtain ⟨z1, z2⟩ := zip_of h2.length
    have hz := paired_zip h2
    generalize as.zip ls = zs at *
    subst z1; subst z2
    let f : Addr × Ln → V × PyData := fun z => (V.ref z.1, PySem.W.Datum.toD z.2)
    have e1 : (zs.map f).map (·.1) = (zs.map (·.1)).map V.ref := by rw [List.map_map, List.map_map]; rfl
    have e3 : (zs.map f).map (·.2) = (zs.map (·.2)).map PySem.W.Datum.toD := by rw [List.map_map, List.map_map]; rfl
    refine ⟨b, zs.map f, rfl, by rw [e1]; exact h1, by rw [e1, e3]; exact dpAll_lines h2, ?_, ?_, by simpa using Nat.le_trans hl (by decide), fun b hb => ?_, fun p hp => ?_⟩
    · rw [e3]
      exact PySem.W.AllAlike.of fun a b => PySem.W.DatumOrd.alike a b
    · rw [e3]
      exact PySem.W.Sortable.tuples fun b => ⟨_, _, rfl⟩
    · obtain ⟨z, _, rfl⟩ := List.mem_map.mp hb
      exact Nat.le_trans (PySem.W.Datum.depth_le z.2) (by decide)
    · have hle : ∀ y z : Addr × Ln, leP y.2 z.2 = PySem.W.dataLe false (fun b : V × PyData => b.2) (f y) (f z) := fun y z => by
        rw [PySem.W.dataLe_eq]
        show (!ltP z.2 y.2) = (!PySem.W.dataLt (PySem.W.Datum.toD z.2) (PySem.W.Datum.toD y.2))
        rw [PySem.W.DatumOrd.lt_eq]
        rfl
      have hm : (zs.map f).mergeSort (PySem.W.dataLe false (·.2)) = (zs.mergeSort fun y z => leP y.2 z.2).map f := (List.map_mergeSort fun y _ z _ => hle y z).symm
      have hs : sortP (zs.map (·.2)) = (zs.mergeSort fun y z => leP y.2 z.2).map (·.2) := by
        unfold sortP
        exact (List.map_mergeSort (f := fun (z : Addr × Ln) => z.2) (r := fun (y z : Addr × Ln) => leP y.2 z.2) (s := leP) (l := zs) fun y _ z _ => rfl).symm
      refine q _ _ (e2.trans (Ex.new hp)) ⟨p, rfl, fresh_back e2 hp, (zs.mergeSort fun y z => leP y.2 z.2).map (·.1), by rw [upd_same, hm, List.map_map, List.map_map]; rfl, ?_⟩
      rw [hs]
      exact paired_of_zip fun z hz' => (hz z (List.mem_mergeSort.mp hz')).mono (Ex.new hp)
end
end AT

/-! ## the text of this law -/
namespace AT
open PySem PySem.Spec PyProof.Rows L2 Evl
def topS (i : Nat) : Stmt := PySem.Challenge.pw_arrowturns_k15_whole_rows_and_rings.main.body.getD i (.Pass ⟨0, 0, 0, 0⟩)
abbrev s_line_right : Stmt := topS 9
abbrev N_line_right : List Str := ["corners", "line", "one", "other"]
theorem sc_line_right : FnScope N_line_right ["corners", "line"] (defScope s_line_right) := ⟨rfl, rfl, rfl, by decide +kernel, rfl, by decide +kernel, by decide +kernel⟩
abbrev s_crossing : Stmt := topS 10
abbrev N_crossing : List Str := ["line", "other"]
theorem sc_crossing : FnScope N_crossing ["line", "other"] (defScope s_crossing) := ⟨rfl, rfl, rfl, by decide +kernel, rfl, by decide +kernel, by decide +kernel⟩
abbrev s_is_cut : Stmt := topS 11
abbrev N_is_cut : List Str := ["corners", "lines", "k", "j"]
theorem sc_is_cut : FnScope N_is_cut ["corners", "lines"] (defScope s_is_cut) := ⟨rfl, rfl, rfl, by decide +kernel, rfl, by decide +kernel, by decide +kernel⟩
abbrev s_must_cut : Stmt := topS 12
abbrev N_must_cut : List Str := ["corners", "lines"]
theorem sc_must_cut : FnScope N_must_cut ["corners", "lines"] (defScope s_must_cut) := ⟨rfl, rfl, rfl, by decide +kernel, rfl, by decide +kernel, by decide +kernel⟩
abbrev s_is_side : Stmt := topS 13
abbrev N_is_side : List Str := ["corners", "lines", "one", "other"]
theorem sc_is_side : FnScope N_is_side ["corners", "lines", "one", "other"] (defScope s_is_side) := ⟨rfl, rfl, rfl, by decide +kernel, rfl, by decide +kernel, by decide +kernel⟩
abbrev s_triangles : Stmt := topS 14
abbrev N_triangles : List Str := ["corners", "lines", "found", "a", "b", "c"]
theorem sc_triangles : FnScope N_triangles ["corners", "lines"] (defScope s_triangles) := ⟨rfl, rfl, rfl, by decide +kernel, rfl, by decide +kernel, by decide +kernel⟩
abbrev s_form_by : Stmt := topS 15
abbrev N_form_by : List Str := ["corners", "lines", "form", "a", "b", "c", "sides", "k", "one", "other", "i", "j", "line"]
theorem sc_form_by : FnScope N_form_by ["corners", "lines"] (defScope s_form_by) := ⟨rfl, rfl, rfl, by decide +kernel, rfl, by decide +kernel, by decide +kernel⟩
abbrev s_form_of : Stmt := topS 16
abbrev N_form_of : List Str := ["corners", "lines"]
theorem sc_form_of : FnScope N_form_of ["corners", "lines"] (defScope s_form_of) := ⟨rfl, rfl, rfl, by decide +kernel, rfl, by decide +kernel, by decide +kernel⟩
abbrev s_row : Stmt := topS 17
abbrev N_row : List Str := ["boxes", "i", "j"]
theorem sc_row : FnScope N_row ["boxes"] (defScope s_row) := ⟨rfl, rfl, rfl, by decide +kernel, rfl, by decide +kernel, by decide +kernel⟩
abbrev s_is_form : Stmt := topS 21
abbrev N_is_form : List Str := ["form", "count", "i", "j", "row"]
theorem sc_is_form : FnScope N_is_form ["form"] (defScope s_is_form) := ⟨rfl, rfl, rfl, by decide +kernel, rfl, by decide +kernel, by decide +kernel⟩
abbrev s_must_form : Stmt := topS 22
abbrev N_must_form : List Str := ["form"]
theorem sc_must_form : FnScope N_must_form ["form"] (defScope s_must_form) := ⟨rfl, rfl, rfl, by decide +kernel, rfl, by decide +kernel, by decide +kernel⟩
abbrev s_through : Stmt := topS 23
abbrev N_through : List Str := ["one", "other"]
theorem sc_through : FnScope N_through ["one", "other"] (defScope s_through) := ⟨rfl, rfl, rfl, by decide +kernel, rfl, by decide +kernel, by decide +kernel⟩
abbrev s_turned_by : Stmt := topS 24
abbrev N_turned_by : List Str := ["form", "box", "found", "i", "row", "j"]
theorem sc_turned_by : FnScope N_turned_by ["form", "box"] (defScope s_turned_by) := ⟨rfl, rfl, rfl, by decide +kernel, rfl, by decide +kernel, by decide +kernel⟩
abbrev s_renamed_by : Stmt := topS 25
abbrev N_renamed_by : List Str := ["form", "names", "count", "place", "k", "i", "j"]
theorem sc_renamed_by : FnScope N_renamed_by ["form", "names"] (defScope s_renamed_by) := ⟨rfl, rfl, rfl, by decide +kernel, rfl, by decide +kernel, by decide +kernel⟩
abbrev s_goes_on : Stmt := topS 26
abbrev N_goes_on : List Str := ["form", "other", "names", "name", "box", "k"]
theorem sc_goes_on : FnScope N_goes_on ["form", "other", "names", "name"] (defScope s_goes_on) := ⟨rfl, rfl, rfl, by decide +kernel, rfl, by decide +kernel, by decide +kernel⟩
abbrev s_first_names : Stmt := topS 27
abbrev N_first_names : List Str := ["form", "other", "names", "name", "found"]
theorem sc_first_names : FnScope N_first_names ["form", "other", "names"] (defScope s_first_names) := ⟨rfl, rfl, rfl, by decide +kernel, rfl, by decide +kernel, by decide +kernel⟩
abbrev s_alike : Stmt := topS 28
abbrev N_alike : List Str := ["form", "other"]
theorem sc_alike : FnScope N_alike ["form", "other"] (defScope s_alike) := ⟨rfl, rfl, rfl, by decide +kernel, rfl, by decide +kernel, by decide +kernel⟩
abbrev s_all_names : Stmt := topS 32
abbrev N_all_names : List Str := ["count", "found", "k", "longer", "names", "name"]
theorem sc_all_names : FnScope N_all_names ["count"] (defScope s_all_names) := ⟨rfl, rfl, rfl, by decide +kernel, rfl, by decide +kernel, by decide +kernel⟩
abbrev s_least_by : Stmt := topS 33
abbrev N_least_by : List Str := ["form", "names"]
theorem sc_least_by : FnScope N_least_by ["form"] (defScope s_least_by) := ⟨rfl, rfl, rfl, by decide +kernel, rfl, by decide +kernel, by decide +kernel⟩
abbrev s_must_be_few : Stmt := topS 34
abbrev N_must_be_few : List Str := ["form"]
theorem sc_must_be_few : FnScope N_must_be_few ["form"] (defScope s_must_be_few) := ⟨rfl, rfl, rfl, by decide +kernel, rfl, by decide +kernel, by decide +kernel⟩
abbrev s_least : Stmt := topS 35
abbrev N_least : List Str := ["form"]
theorem sc_least : FnScope N_least ["form"] (defScope s_least) := ⟨rfl, rfl, rfl, by decide +kernel, rfl, by decide +kernel, by decide +kernel⟩
abbrev s_key_of : Stmt := topS 36
abbrev N_key_of : List Str := ["form", "row"]
theorem sc_key_of : FnScope N_key_of ["form"] (defScope s_key_of) := ⟨rfl, rfl, rfl, by decide +kernel, rfl, by decide +kernel, by decide +kernel⟩
abbrev s_ways_from : Stmt := topS 37
abbrev N_ways_from : List Str := ["form", "ways", "queue", "at", "way_here", "here", "box", "behind", "key"]
theorem sc_ways_from : FnScope N_ways_from ["form"] (defScope s_ways_from) := ⟨rfl, rfl, rfl, by decide +kernel, rfl, by decide +kernel, by decide +kernel⟩
abbrev s_reach : Stmt := topS 38
abbrev N_reach : List Str := ["form", "key", "row"]
theorem sc_reach : FnScope N_reach ["form"] (defScope s_reach) := ⟨rfl, rfl, rfl, by decide +kernel, rfl, by decide +kernel, by decide +kernel⟩
abbrev s_way : Stmt := topS 39
abbrev N_way : List Str := ["form", "other", "ways"]
theorem sc_way : FnScope N_way ["form", "other"] (defScope s_way) := ⟨rfl, rfl, rfl, by decide +kernel, rfl, by decide +kernel, by decide +kernel⟩
abbrev s__law_cell : Stmt := topS 41
abbrev N__law_cell : List Str := ["script", "k", "base"]
theorem sc__law_cell : FnScope N__law_cell ["script", "k"] (defScope s__law_cell) := ⟨rfl, rfl, rfl, by decide +kernel, rfl, by decide +kernel, by decide +kernel⟩
abbrev s__law_copy : Stmt := topS 43
abbrev N__law_copy : List Str := ["form", "numbers"]
theorem sc__law_copy : FnScope N__law_copy ["form"] (defScope s__law_copy) := ⟨rfl, rfl, rfl, by decide +kernel, rfl, by decide +kernel, by decide +kernel⟩
abbrev s__law_like : Stmt := topS 44
abbrev N__law_like : List Str := ["found", "due", "numbers", "other", "one", "two"]
theorem sc__law_like : FnScope N__law_like ["found", "due"] (defScope s__law_like) := ⟨rfl, rfl, rfl, by decide +kernel, rfl, by decide +kernel, by decide +kernel⟩
abbrev s__law_turn : Stmt := topS 45
abbrev N__law_turn : List Str := ["form", "box", "count", "found", "i", "numbers", "j", "one", "two"]
theorem sc__law_turn : FnScope N__law_turn ["form", "box"] (defScope s__law_turn) := ⟨rfl, rfl, rfl, by decide +kernel, rfl, by decide +kernel, by decide +kernel⟩
abbrev s__law_line : Stmt := topS 46
abbrev N__law_line : List Str := ["corners", "line", "one", "other"]
theorem sc__law_line : FnScope N__law_line ["corners", "line"] (defScope s__law_line) := ⟨rfl, rfl, rfl, by decide +kernel, rfl, by decide +kernel, by decide +kernel⟩
abbrev s__law_cross : Stmt := topS 47
abbrev N__law_cross : List Str := ["line", "other"]
theorem sc__law_cross : FnScope N__law_cross ["line", "other"] (defScope s__law_cross) := ⟨rfl, rfl, rfl, by decide +kernel, rfl, by decide +kernel, by decide +kernel⟩
abbrev s__law_cut : Stmt := topS 49
abbrev N__law_cut : List Str := ["script", "k", "corners", "lines", "todo", "one", "other", "at"]
theorem sc__law_cut : FnScope N__law_cut ["script", "k", "corners"] (defScope s__law_cut) := ⟨rfl, rfl, rfl, by decide +kernel, rfl, by decide +kernel, by decide +kernel⟩
abbrev s__law_which : Stmt := topS 52
abbrev N__law_which : List Str := ["e", "kinds"]
theorem sc__law_which : FnScope N__law_which ["e"] (defScope s__law_which) := ⟨rfl, rfl, rfl, by decide +kernel, rfl, by decide +kernel, by decide +kernel⟩
abbrev s__law_all : Stmt := topS 53
abbrev N__law_all : List Str := ["lines", "wanted", "found", "line", "longer", "some", "one"]
theorem sc__law_all : FnScope N__law_all ["lines", "wanted"] (defScope s__law_all) := ⟨rfl, rfl, rfl, by decide +kernel, rfl, by decide +kernel, by decide +kernel⟩
abbrev s__law_refused : Stmt := topS 54
abbrev N__law_refused : List Str := ["boxes", "which", "e"]
theorem sc__law_refused : FnScope N__law_refused ["boxes"] (defScope s__law_refused) := ⟨rfl, rfl, rfl, by decide +kernel, rfl, by decide +kernel, by decide +kernel⟩
abbrev s_law : Stmt := topS 55
abbrev N_law : List Str := ["script", "boxes", "due", "found", "off", "corners", "lines", "b", "some", "cut", "name", "told", "form", "steps", "here", "box", "i", "j", "a"]
theorem sc_law : FnScope N_law ["script"] (defScope s_law) := ⟨rfl, rfl, rfl, by decide +kernel, rfl, by decide +kernel, by decide +kernel⟩
/-- what the top has left: the defs, the constants, the classes, the built-in names -/
structure Txt (K : Frag) (mg : Str → Option Value) where
  f_line_right : Addr
  d_line_right : FuncData
  F_line_right : Fun K "line_right" "line_right" s_line_right f_line_right d_line_right
  m_line_right : mg "line_right" = some (.ref f_line_right)
  b_line_right : Binds K d_line_right ["corners", "line"] []
  f_crossing : Addr
  d_crossing : FuncData
  F_crossing : Fun K "crossing" "crossing" s_crossing f_crossing d_crossing
  m_crossing : mg "crossing" = some (.ref f_crossing)
  b_crossing : Binds K d_crossing ["line", "other"] []
  f_is_cut : Addr
  d_is_cut : FuncData
  F_is_cut : Fun K "is_cut" "is_cut" s_is_cut f_is_cut d_is_cut
  m_is_cut : mg "is_cut" = some (.ref f_is_cut)
  b_is_cut : Binds K d_is_cut ["corners", "lines"] []
  f_must_cut : Addr
  d_must_cut : FuncData
  F_must_cut : Fun K "must_cut" "must_cut" s_must_cut f_must_cut d_must_cut
  m_must_cut : mg "must_cut" = some (.ref f_must_cut)
  b_must_cut : Binds K d_must_cut ["corners", "lines"] []
  f_is_side : Addr
  d_is_side : FuncData
  F_is_side : Fun K "is_side" "is_side" s_is_side f_is_side d_is_side
  m_is_side : mg "is_side" = some (.ref f_is_side)
  b_is_side : Binds K d_is_side ["corners", "lines", "one", "other"] []
  f_triangles : Addr
  d_triangles : FuncData
  F_triangles : Fun K "triangles" "triangles" s_triangles f_triangles d_triangles
  m_triangles : mg "triangles" = some (.ref f_triangles)
  b_triangles : Binds K d_triangles ["corners", "lines"] []
  f_form_by : Addr
  d_form_by : FuncData
  F_form_by : Fun K "form_by" "form_by" s_form_by f_form_by d_form_by
  m_form_by : mg "form_by" = some (.ref f_form_by)
  b_form_by : Binds K d_form_by ["corners", "lines"] []
  f_form_of : Addr
  d_form_of : FuncData
  F_form_of : Fun K "form_of" "form_of" s_form_of f_form_of d_form_of
  m_form_of : mg "form_of" = some (.ref f_form_of)
  b_form_of : Binds K d_form_of ["corners", "lines"] []
  f_row : Addr
  d_row : FuncData
  F_row : Fun K "row" "row" s_row f_row d_row
  m_row : mg "row" = some (.ref f_row)
  b_row : Binds K d_row ["boxes"] []
  f_is_form : Addr
  d_is_form : FuncData
  F_is_form : Fun K "is_form" "is_form" s_is_form f_is_form d_is_form
  m_is_form : mg "is_form" = some (.ref f_is_form)
  b_is_form : Binds K d_is_form ["form"] []
  f_must_form : Addr
  d_must_form : FuncData
  F_must_form : Fun K "must_form" "must_form" s_must_form f_must_form d_must_form
  m_must_form : mg "must_form" = some (.ref f_must_form)
  b_must_form : Binds K d_must_form ["form"] []
  f_through : Addr
  d_through : FuncData
  F_through : Fun K "through" "through" s_through f_through d_through
  m_through : mg "through" = some (.ref f_through)
  b_through : Binds K d_through ["one", "other"] []
  f_turned_by : Addr
  d_turned_by : FuncData
  F_turned_by : Fun K "turned_by" "turned_by" s_turned_by f_turned_by d_turned_by
  m_turned_by : mg "turned_by" = some (.ref f_turned_by)
  b_turned_by : Binds K d_turned_by ["form", "box"] []
  f_renamed_by : Addr
  d_renamed_by : FuncData
  F_renamed_by : Fun K "renamed_by" "renamed_by" s_renamed_by f_renamed_by d_renamed_by
  m_renamed_by : mg "renamed_by" = some (.ref f_renamed_by)
  b_renamed_by : Binds K d_renamed_by ["form", "names"] []
  f_goes_on : Addr
  d_goes_on : FuncData
  F_goes_on : Fun K "goes_on" "goes_on" s_goes_on f_goes_on d_goes_on
  m_goes_on : mg "goes_on" = some (.ref f_goes_on)
  b_goes_on : Binds K d_goes_on ["form", "other", "names", "name"] []
  f_first_names : Addr
  d_first_names : FuncData
  F_first_names : Fun K "first_names" "first_names" s_first_names f_first_names d_first_names
  m_first_names : mg "first_names" = some (.ref f_first_names)
  b_first_names : Binds K d_first_names ["form", "other", "names"] []
  f_alike : Addr
  d_alike : FuncData
  F_alike : Fun K "alike" "alike" s_alike f_alike d_alike
  m_alike : mg "alike" = some (.ref f_alike)
  b_alike : Binds K d_alike ["form", "other"] []
  f_all_names : Addr
  d_all_names : FuncData
  F_all_names : Fun K "all_names" "all_names" s_all_names f_all_names d_all_names
  m_all_names : mg "all_names" = some (.ref f_all_names)
  b_all_names : Binds K d_all_names ["count"] []
  f_least_by : Addr
  d_least_by : FuncData
  F_least_by : Fun K "least_by" "least_by" s_least_by f_least_by d_least_by
  m_least_by : mg "least_by" = some (.ref f_least_by)
  b_least_by : Binds K d_least_by ["form"] []
  f_must_be_few : Addr
  d_must_be_few : FuncData
  F_must_be_few : Fun K "must_be_few" "must_be_few" s_must_be_few f_must_be_few d_must_be_few
  m_must_be_few : mg "must_be_few" = some (.ref f_must_be_few)
  b_must_be_few : Binds K d_must_be_few ["form"] []
  f_least : Addr
  d_least : FuncData
  F_least : Fun K "least" "least" s_least f_least d_least
  m_least : mg "least" = some (.ref f_least)
  b_least : Binds K d_least ["form"] []
  f_key_of : Addr
  d_key_of : FuncData
  F_key_of : Fun K "key_of" "key_of" s_key_of f_key_of d_key_of
  m_key_of : mg "key_of" = some (.ref f_key_of)
  b_key_of : Binds K d_key_of ["form"] []
  f_ways_from : Addr
  d_ways_from : FuncData
  F_ways_from : Fun K "ways_from" "ways_from" s_ways_from f_ways_from d_ways_from
  m_ways_from : mg "ways_from" = some (.ref f_ways_from)
  b_ways_from : Binds K d_ways_from ["form"] []
  f_reach : Addr
  d_reach : FuncData
  F_reach : Fun K "reach" "reach" s_reach f_reach d_reach
  m_reach : mg "reach" = some (.ref f_reach)
  b_reach : Binds K d_reach ["form"] []
  f_way : Addr
  d_way : FuncData
  F_way : Fun K "way" "way" s_way f_way d_way
  m_way : mg "way" = some (.ref f_way)
  b_way : Binds K d_way ["form", "other"] []
  f__law_cell : Addr
  d__law_cell : FuncData
  F__law_cell : Fun K "_law_cell" "_law_cell" s__law_cell f__law_cell d__law_cell
  m__law_cell : mg "_law_cell" = some (.ref f__law_cell)
  b__law_cell : Binds K d__law_cell ["script", "k"] []
  f__law_copy : Addr
  d__law_copy : FuncData
  F__law_copy : Fun K "_law_copy" "_law_copy" s__law_copy f__law_copy d__law_copy
  m__law_copy : mg "_law_copy" = some (.ref f__law_copy)
  b__law_copy : Binds K d__law_copy ["form"] []
  f__law_like : Addr
  d__law_like : FuncData
  F__law_like : Fun K "_law_like" "_law_like" s__law_like f__law_like d__law_like
  m__law_like : mg "_law_like" = some (.ref f__law_like)
  b__law_like : Binds K d__law_like ["found", "due"] []
  f__law_turn : Addr
  d__law_turn : FuncData
  F__law_turn : Fun K "_law_turn" "_law_turn" s__law_turn f__law_turn d__law_turn
  m__law_turn : mg "_law_turn" = some (.ref f__law_turn)
  b__law_turn : Binds K d__law_turn ["form", "box"] []
  f__law_line : Addr
  d__law_line : FuncData
  F__law_line : Fun K "_law_line" "_law_line" s__law_line f__law_line d__law_line
  m__law_line : mg "_law_line" = some (.ref f__law_line)
  b__law_line : Binds K d__law_line ["corners", "line"] []
  f__law_cross : Addr
  d__law_cross : FuncData
  F__law_cross : Fun K "_law_cross" "_law_cross" s__law_cross f__law_cross d__law_cross
  m__law_cross : mg "_law_cross" = some (.ref f__law_cross)
  b__law_cross : Binds K d__law_cross ["line", "other"] []
  f__law_cut : Addr
  d__law_cut : FuncData
  F__law_cut : Fun K "_law_cut" "_law_cut" s__law_cut f__law_cut d__law_cut
  m__law_cut : mg "_law_cut" = some (.ref f__law_cut)
  b__law_cut : Binds K d__law_cut ["script", "k", "corners"] []
  f__law_which : Addr
  d__law_which : FuncData
  F__law_which : Fun K "_law_which" "_law_which" s__law_which f__law_which d__law_which
  m__law_which : mg "_law_which" = some (.ref f__law_which)
  b__law_which : Binds K d__law_which ["e"] []
  f__law_all : Addr
  d__law_all : FuncData
  F__law_all : Fun K "_law_all" "_law_all" s__law_all f__law_all d__law_all
  m__law_all : mg "_law_all" = some (.ref f__law_all)
  b__law_all : Binds K d__law_all ["lines", "wanted"] []
  f__law_refused : Addr
  d__law_refused : FuncData
  F__law_refused : Fun K "_law_refused" "_law_refused" s__law_refused f__law_refused d__law_refused
  m__law_refused : mg "_law_refused" = some (.ref f__law_refused)
  b__law_refused : Binds K d__law_refused ["boxes"] []
  f_law : Addr
  d_law : FuncData
  F_law : Fun K "law" "law" s_law f_law d_law
  m_law : mg "law" = some (.ref f_law)
  b_law : Binds K d_law ["script"] []
  t_MOST_CORNERS : Tok
  m_MOST_CORNERS : mg "MOST_CORNERS" = some (.int 9 t_MOST_CORNERS)
  t_MOST_BOXES : Tok
  m_MOST_BOXES : mg "MOST_BOXES" = some (.int 6 t_MOST_BOXES)
  t_MOST_ARROWS : Tok
  m_MOST_ARROWS : mg "MOST_ARROWS" = some (.int 99 t_MOST_ARROWS)
  t_MOST_NAMED : Tok
  m_MOST_NAMED : mg "MOST_NAMED" = some (.int 4 t_MOST_NAMED)
  t_MOST_FORMS : Tok
  m_MOST_FORMS : mg "MOST_FORMS" = some (.int 20 t_MOST_FORMS)
  c_TurnError : Addr
  x_TurnError : ExcF K mg "TurnError" c_TurnError
  g_TurnError : mg "TurnError" = some (.ref c_TurnError)
  c_NoForm : Addr
  x_NoForm : ExcF K mg "NoForm" c_NoForm
  g_NoForm : mg "NoForm" = some (.ref c_NoForm)
  c_NoBox : Addr
  x_NoBox : ExcF K mg "NoBox" c_NoBox
  g_NoBox : mg "NoBox" = some (.ref c_NoBox)
  c_NoNames : Addr
  x_NoNames : ExcF K mg "NoNames" c_NoNames
  g_NoNames : mg "NoNames" = some (.ref c_NoNames)
  c_NoCut : Addr
  x_NoCut : ExcF K mg "NoCut" c_NoCut
  g_NoCut : mg "NoCut" = some (.ref c_NoCut)
  c_TooMany : Addr
  x_TooMany : ExcF K mg "TooMany" c_TooMany
  g_TooMany : mg "TooMany" = some (.ref c_TooMany)
  u_TurnError_TurnError : PySem.W.subIn K (.ref c_TurnError) (.ref c_TurnError) = some true
  u_TurnError_NoForm : PySem.W.subIn K (.ref c_TurnError) (.ref c_NoForm) = some false
  u_TurnError_NoBox : PySem.W.subIn K (.ref c_TurnError) (.ref c_NoBox) = some false
  u_TurnError_NoNames : PySem.W.subIn K (.ref c_TurnError) (.ref c_NoNames) = some false
  u_TurnError_NoCut : PySem.W.subIn K (.ref c_TurnError) (.ref c_NoCut) = some false
  u_TurnError_TooMany : PySem.W.subIn K (.ref c_TurnError) (.ref c_TooMany) = some false
  u_NoForm_TurnError : PySem.W.subIn K (.ref c_NoForm) (.ref c_TurnError) = some true
  u_NoForm_NoForm : PySem.W.subIn K (.ref c_NoForm) (.ref c_NoForm) = some true
  u_NoForm_NoBox : PySem.W.subIn K (.ref c_NoForm) (.ref c_NoBox) = some false
  u_NoForm_NoNames : PySem.W.subIn K (.ref c_NoForm) (.ref c_NoNames) = some false
  u_NoForm_NoCut : PySem.W.subIn K (.ref c_NoForm) (.ref c_NoCut) = some false
  u_NoForm_TooMany : PySem.W.subIn K (.ref c_NoForm) (.ref c_TooMany) = some false
  u_NoBox_TurnError : PySem.W.subIn K (.ref c_NoBox) (.ref c_TurnError) = some true
  u_NoBox_NoForm : PySem.W.subIn K (.ref c_NoBox) (.ref c_NoForm) = some false
  u_NoBox_NoBox : PySem.W.subIn K (.ref c_NoBox) (.ref c_NoBox) = some true
  u_NoBox_NoNames : PySem.W.subIn K (.ref c_NoBox) (.ref c_NoNames) = some false
  u_NoBox_NoCut : PySem.W.subIn K (.ref c_NoBox) (.ref c_NoCut) = some false
  u_NoBox_TooMany : PySem.W.subIn K (.ref c_NoBox) (.ref c_TooMany) = some false
  u_NoNames_TurnError : PySem.W.subIn K (.ref c_NoNames) (.ref c_TurnError) = some true
  u_NoNames_NoForm : PySem.W.subIn K (.ref c_NoNames) (.ref c_NoForm) = some false
  u_NoNames_NoBox : PySem.W.subIn K (.ref c_NoNames) (.ref c_NoBox) = some false
  u_NoNames_NoNames : PySem.W.subIn K (.ref c_NoNames) (.ref c_NoNames) = some true
  u_NoNames_NoCut : PySem.W.subIn K (.ref c_NoNames) (.ref c_NoCut) = some false
  u_NoNames_TooMany : PySem.W.subIn K (.ref c_NoNames) (.ref c_TooMany) = some false
  u_NoCut_TurnError : PySem.W.subIn K (.ref c_NoCut) (.ref c_TurnError) = some true
  u_NoCut_NoForm : PySem.W.subIn K (.ref c_NoCut) (.ref c_NoForm) = some false
  u_NoCut_NoBox : PySem.W.subIn K (.ref c_NoCut) (.ref c_NoBox) = some false
  u_NoCut_NoNames : PySem.W.subIn K (.ref c_NoCut) (.ref c_NoNames) = some false
  u_NoCut_NoCut : PySem.W.subIn K (.ref c_NoCut) (.ref c_NoCut) = some true
  u_NoCut_TooMany : PySem.W.subIn K (.ref c_NoCut) (.ref c_TooMany) = some false
  u_TooMany_TurnError : PySem.W.subIn K (.ref c_TooMany) (.ref c_TurnError) = some true
  u_TooMany_NoForm : PySem.W.subIn K (.ref c_TooMany) (.ref c_NoForm) = some false
  u_TooMany_NoBox : PySem.W.subIn K (.ref c_TooMany) (.ref c_NoBox) = some false
  u_TooMany_NoNames : PySem.W.subIn K (.ref c_TooMany) (.ref c_NoNames) = some false
  u_TooMany_NoCut : PySem.W.subIn K (.ref c_TooMany) (.ref c_NoCut) = some false
  u_TooMany_TooMany : PySem.W.subIn K (.ref c_TooMany) (.ref c_TooMany) = some true
  b_len : mg "len" = none
  b_range : mg "range" = none
  b_int : mg "int" = none
  b_abs : mg "abs" = none
  b_min : mg "min" = none
  b_tuple : mg "tuple" = none
  b_sorted : mg "sorted" = none
  b_list : mg "list" = none
  b_isinstance : mg "isinstance" = none
  b_zip : mg "zip" = none
  b_bool : mg "bool" = none
  b_ValueError : mg "ValueError" = none
end AT

namespace AT
open PySem PySem.Spec PyProof.Rows L2 Evl
/-! ### is_form -/
def cl (M : List (List Int)) (i j : Nat) : Int := (M.getD i []).getD j 0
/-- rows that are a form of n boxes with the numbers f -/
def FormOf (n : Nat) (f : Nat → Nat → Int) : Prop := 1 ≤ n ∧ n ≤ 6 ∧ ∀ i j, i < n → j < n → f i j = 0 - f j i ∧ -99 ≤ f i j ∧ f i j ≤ 99
def IsForm (M : List (List Int)) : Prop := ∃ n f, M = Fm n f ∧ FormOf n f
theorem list_eq_range {α : Type} (d : α) (l : List α) : l = (List.range l.length).map fun i => l.getD i d := by
  apply List.ext_getElem
  · simp
  · intro i h1 h2
    simp [List.getD_eq_getElem?_getD, h1]
theorem fm_of {M : List (List Int)} (h : ∀ r, r ∈ M → r.length = M.length) : M = Fm M.length (cl M) := by
  unfold Fm
  refine (list_eq_range [] M).trans (mapr_ext fun i hi => ?_)
  have hm : M.getD i [] ∈ M := by
    rw [List.getD_eq_getElem?_getD, List.getElem?_eq_getElem hi]
    exact List.getElem_mem hi
  have e := list_eq_range 0 (M.getD i [])
  rw [h _ hm] at e
  exact e
theorem isForm_rows {M : List (List Int)} (h : IsForm M) : 1 ≤ M.length ∧ M.length ≤ 6 ∧ (∀ r, r ∈ M → r.length = M.length) := by
  obtain ⟨n, f, rfl, h1, h2, _⟩ := h
  rw [fm_len]
  refine ⟨h1, h2, fun r hr => ?_⟩
  obtain ⟨i, _, rfl⟩ := List.mem_map.mp hr
  simp
theorem isForm_iff {M : List (List Int)} (h1 : 1 ≤ M.length) (h2 : M.length ≤ 6) (h : ∀ r, r ∈ M → r.length = M.length) :
    IsForm M ↔ ∀ i j, i < M.length → j < M.length → cl M i j = 0 - cl M j i ∧ -99 ≤ cl M i j ∧ cl M i j ≤ 99 := by
  constructor
  · rintro ⟨n, f, e, _, _, q⟩ i j hi hj
    have e2 := (fm_of h).symm.trans e
    obtain ⟨e3, e4⟩ := fm_inj e2
    rw [e4 i j hi hj, e4 j i hj hi]
    exact q i j (by omega) (by omega)
  · intro q
    exact ⟨M.length, cl M, fm_of h, h1, h2, q⟩
def sp_is_form (K : Frag) : Sp := fun vs H Q _ => ∃ a M, vs = [.ref a] ∧ LLI K H a M ∧ M.length ≤ 1000 ∧ (∀ r, r ∈ M → r.length ≤ 1000) ∧ ∀ b H', Ex H H' → (b = true ↔ IsForm M) → Q (.bl b) H'
section
variable {P : Program} {w : World} {K : Frag} {mg : Str → Option Value} {base : Heap} {k : Nat}
theorem given_pos {n : Nat} {f : Nat → Bool} {v : Nat → V} : (0 < ((given n f v).length : Int)) ↔ ∃ i, i < n ∧ f i = true := by
  unfold given
  rw [List.length_map]
  constructor
  · intro h
    have h2 : 0 < ((List.range n).filter f).length := by omega
    obtain ⟨x, hx⟩ := List.exists_mem_of_length_pos h2
    obtain ⟨a, b⟩ := List.mem_filter.mp hx
    exact ⟨x, List.mem_range.mp a, b⟩
  · rintro ⟨i, hi, hf⟩
    have : i ∈ (List.range n).filter f := List.mem_filter.mpr ⟨List.mem_range.mpr hi, hf⟩
    have := List.length_pos_of_mem this
    omega
theorem ok_is_form (T : Txt K mg) : FnOk P w K mg base CX0 (k + 1) T.f_is_form T.d_is_form ["form"] (sp_is_form K) := by
  refine T.F_is_form.ok sc_is_form (fun vs H Q E h => ?_) (fun cdv A outer s H vs Q E hr h => ?_)
  · obtain ⟨a, M, rfl, _⟩ := h
    rfl
  · obtain ⟨a, M, rfl, hM, hl, hrl, q⟩ := h
    refine ⟨_, (pss_cons (ps_set (i := 1) sc_is_form.nd rfl (.inr rfl) (pe_callB (lenK K) rfl T.b_len PySem.boot_len (pa_cons (pv 0) pa_nil)))
      (pss_cons (ps_if (PW.pt (pw_or (pt_cmpR op_lt (pv 1) pe_int (nomark _)) (pw_or (pt_cmpR op_gt (pv 1) (pe_glob (v := .int 6) rfl T.m_MOST_BOXES ⟨_, rfl⟩) (nomark _)) (pw_or1 (pt_cmpR op_gt (pe_callB (lenK K) rfl T.b_len PySem.boot_len (pa_cons (pe_lc (own := [("row", 4)]) rfl sc_is_form.nd (pi_listK K (pv 0)) (blkOk_by (own := [("row", 4)]) (N := N_is_form) (sc := defScope s_is_form) (by decide +kernel)) (fun _ _ _ _ _ => (pg_name (i := 4) sc_is_form.nd rfl (.inl rfl))) (fun _ _ _ _ _ => (pts_one (pt_cmpR op_ne (pe_callB (lenK K) rfl T.b_len PySem.boot_len (pa_cons (pv 4) pa_nil)) (pv 1) (nomark _)))) (fun _ _ _ _ _ => (pv 4))) pa_nil)) pe_int (nomark _))))))
        (pss_one (ps_ret pe_bl))
        pss_nil)
      (pss_cons (ps_for PassesOwn.never rfl (pi_range1 rfl T.b_range (pa_cons (pv 1) pa_nil)) (pg_name (i := 2) sc_is_form.nd rfl (.inl rfl))
        (pss_one (ps_for PassesOwn.never rfl (pi_range1 rfl T.b_range (pa_cons (pv 1) pa_nil)) (pg_name (i := 3) sc_is_form.nd rfl (.inl rfl))
        (pss_one (ps_if (PW.pt (pw_or (pt_cmpR op_ne (pe_ix (ixL K) (pe_ix (ixL K) (pv 0) (pv 2) (fun _ _ => rfl)) (pv 3) (fun _ _ => rfl)) (pe_op op_sub pe_int (pe_ix (ixL K) (pe_ix (ixL K) (pv 0) (pv 3) (fun _ _ => rfl)) (pv 2) (fun _ _ => rfl))) (nomark _)) (pw_or1 (pt_cmpR op_gt (pe_callB absK rfl T.b_abs (by decide +kernel) (pa_cons (pe_ix (ixL K) (pe_ix (ixL K) (pv 0) (pv 2) (fun _ _ => rfl)) (pv 3) (fun _ _ => rfl)) pa_nil)) (pe_glob (v := .int 99) rfl T.m_MOST_ARROWS ⟨_, rfl⟩) (nomark _)))))
        (pss_one (ps_ret pe_bl))
        pss_nil)))))
      (pss_one (ps_ret pe_bl))))), ?_⟩
    obtain ⟨as, hA, hP⟩ := id hM
    have hlen := hP.length
    refine q_asg (ev_lenLLI (ev_var rfl) hM) fun H1 e1 => ?_
    -- the first test
    have hcomp : ∃ rows : Nat → Bool, (∀ i r, M[i]? = some r → rows i = decide (r.length ≠ M.length)) := ⟨fun i => decide ((M.getD i []).length ≠ M.length), fun i r h => by show decide ((M.getD i []).length ≠ M.length) = _; rw [List.getD_eq_getElem?_getD, h]; rfl⟩
    obtain ⟨rows, hrows⟩ := hcomp
    refine q_when (b := (decide ((M.length : Int) < 1)) || (decide ((6 : Int) < M.length) || decide (0 < ((given (as.map V.ref).length rows fun i => (as.map V.ref).getD i .non).length : Int)))) ?_ ?_ ?_
    · refine et_or (et_test (ev_op (ev_var rfl) ev_c rv_I0)) fun _ => et_or (et_test (ev_op (ev_var rfl) ev_c rv_I0)) fun _ => et_test (ev_op (ev_lenN ?_) ev_c rv_I0)
      refine el_lcL _ _ (ev_var rfl) (ex_l e1 hA) (by rw [List.length_map]; omega) (fun _ => rfl) (fun i x H2 e2 hx => ?_) (fun i x H2 e2 hx _ => ?_)
      · rw [List.getElem?_map] at hx
        cases hy : as[i]? with
        | none => rw [hy] at hx; cases hx
        | some y =>
          rw [hy] at hx
          cases hx
          obtain ⟨r, h1, h2⟩ := paired_getL hP hy
          rw [hrows i r h1]
          refine et_is (et_test (ev_op (ev_lenLI (ev_var rfl) (h2.mono (e1.trans e2))) (ev_var rfl) (rv_ne rfl))) ?_
          by_cases z : r.length = M.length
          · simp [z]
          · have : ¬ (V.int (r.length : Int) = V.int (M.length : Int)) := fun q => z (by injection q; omega)
            simp [z, this]
      · rw [List.getD_eq_getElem?_getD, hx]
        exact ev_var rfl
    · intro hb H2 e2
      refine s_ret ev_c fun H3 e3 => q false H3 ((e1.trans e2).trans e3) (bfF fun z => ?_)
      obtain ⟨z1, z2, z3⟩ := isForm_rows z
      simp only [Bool.or_eq_true, decide_eq_true_eq, given_pos] at hb
      rcases hb with hb | hb | ⟨i, hi, hb⟩
      · omega
      · omega
      · rw [List.length_map, hlen] at hi
        have := hrows i M[i] (List.getElem?_eq_getElem hi)
        rw [hb, z3 _ (List.getElem_mem hi)] at this
        simp at this
    · intro hb H2 e2
      simp only [Bool.or_eq_false_iff, decide_eq_false_iff_not, given_pos] at hb
      obtain ⟨hb1, hb2, hb3⟩ := hb
      have hn1 : 1 ≤ M.length := by omega
      have hn2 : M.length ≤ 6 := by omega
      have hrow : ∀ r, r ∈ M → r.length = M.length := fun r hr => by
        obtain ⟨i, hi, e⟩ := List.mem_iff_getElem.mp hr
        by_cases z : r.length = M.length
        · exact z
        · refine (hb3 ⟨i, by rw [List.length_map, hlen]; exact hi, ?_⟩).elim
          rw [hrows i r (by rw [List.getElem?_eq_getElem hi, e])]
          exact decide_eq_true z
      have hfm := fm_of hrow
      have hiff := isForm_iff hn1 hn2 hrow
      generalize hn : M.length = n at *
      rw [hfm] at hM
      refine q_forR1 (n := (n : Int)) (ea_cons (ev_var rfl) ea_nil) (by omega) (fun i σ' H' => ∃ x2 x3 x4, σ' = [some (.ref a), some (.int (n : Int)), x2, x3, x4] ∧ Ex H H' ∧ ∀ i' j, i' < i → j < n → cl M i' j = 0 - cl M j i' ∧ -99 ≤ cl M i' j ∧ cl M i' j ≤ 99) (fun H3 e3 => ⟨none, none, none, rfl, (e1.trans e2).trans e3, fun i' j h => absurd h (Nat.not_lt_zero _)⟩) (fun i σ' H' hi hp => ?_) (fun σ' H' hp => ?_)
      · obtain ⟨x2, x3, x4, rfl, eH, hc⟩ := hp
        have hi' : i < n := by omega
        refine s_forR1 (n := (n : Int)) (ea_cons (ev_var rfl) ea_nil) (by omega) (fun j σ' H' => ∃ x3 x4, σ' = [some (.ref a), some (.int (n : Int)), some (.int (i : Int)), x3, x4] ∧ Ex H H' ∧ ∀ j', j' < j → cl M i j' = 0 - cl M j' i ∧ -99 ≤ cl M i j' ∧ cl M i j' ≤ 99) (fun H3 e3 => ⟨_, _, rfl, eH.trans e3, fun j' h => absurd h (Nat.not_lt_zero _)⟩) (fun j σ' H' hj hp => ?_) (fun σ' H' hp => ?_)
        · obtain ⟨y3, y4, rfl, eH', hc'⟩ := hp
          have hj' : j < n := by omega
          have hMj := hM.mono eH'
          refine s_when (et_or (et_test (ev_op (ev_fm (ev_var rfl) (ev_var rfl) (ev_var rfl) hMj hi' hj') (ev_op ev_c (ev_fm (ev_var rfl) (ev_var rfl) (ev_var rfl) hMj hj' hi') rv_I0) (rv_ne rfl))) fun _ => et_test (ev_op (ev_abs (ev_fm (ev_var rfl) (ev_var rfl) (ev_var rfl) hMj hi' hj')) ev_c rv_I0)) (fun hb H3 e3 => ?_) (fun hb H3 e3 => ?_)
          · refine s_ret ev_c fun H4 e4 => q false H4 ((eH'.trans e3).trans e4) (bfF fun z => ?_)
            have := (hiff.mp z) i j hi' hj'
            simp only [Bool.or_eq_true, decide_eq_true_eq, Bool.not_eq_true', decide_eq_false_iff_not] at hb
            rcases hb with hb | hb
            · exact absurd (by rw [this.1]) hb
            · split at hb <;> omega
          · refine ⟨_, _, rfl, eH'.trans e3, fun j' h => ?_⟩
            by_cases e : j' = j
            · subst e
              simp only [Bool.or_eq_false_iff, decide_eq_false_iff_not, Bool.not_eq_false', decide_eq_true_eq] at hb
              obtain ⟨h1, h2⟩ := hb
              have h1' : cl M i j' = 0 - cl M j' i := by injection h1
              refine ⟨h1', ?_⟩
              split at h2 <;> omega
            · exact hc' j' (by omega)
        · obtain ⟨y3, y4, rfl, eH', hc'⟩ := hp
          refine ⟨_, _, _, rfl, eH', fun i' j h hj => ?_⟩
          by_cases e : i' = i
          · subst e
            exact hc' j (by omega)
          · exact hc i' j (by omega) hj
      · obtain ⟨x2, x3, x4, rfl, eH, hc⟩ := hp
        refine s_ret ev_c fun H3 e3 => q true H3 (eH.trans e3) (bfT (hiff.mpr fun i j hi hj => hc i j (by omega) hj))
end
end AT

/-! ## * of any size that the machine takes -/
namespace AT
open PySem PySem.Spec PyProof.Rows L2 Evl
def CMulX (i j : Int) : Prop := i.natAbs.log2 + j.natAbs.log2 < 100000000
theorem CMulX.ok {i j : Int} (h : CMulX i j) : IntMulOk i j := by
  have b : ∀ x : Int, Builtin.Int.intBits x ≤ x.natAbs.log2 + 1 := fun x => by
    unfold Builtin.Int.intBits
    split <;> omega
  have h1 := b i
  have h2 := b j
  have h3 : i.natAbs.log2 + j.natAbs.log2 < 100000000 := h
  have e : bitsLine = 134217728 := by decide
  unfold IntMulOk
  intro z
  rw [Bool.and_eq_true] at z
  have z2 := z.2
  unfold Builtin.Int.intTooBig at z2
  have z3 := of_decide_eq_true z2
  rw [e] at z3
  omega
theorem op_mulX {X : Cx} : OpR X (binaryOp .Mult) (rI CMulX fun i j => .int (i * j)) := opI fun _ _ _ _ _ _ _ hc q => mul_int q hc.ok
theorem wide_mulX {i j : Int} {a b : Nat} (ha : i.natAbs < 2 ^ a) (hb : j.natAbs < 2 ^ b) (h0 : 0 < a) (h1 : 0 < b) (h : a + b ≤ 100000000) : CMulX i j := by
  have x := PySem.Flt.log2_lt_of h0 ha
  have y := PySem.Flt.log2_lt_of h1 hb
  unfold CMulX
  omega
end AT
namespace AT
open PySem PySem.Spec PyProof.Rows L2 Evl
/-! ### must_form, through, turned_by, turned -/
def thr (a b : Int) : Int := if 0 < a ∧ 0 < b then a * b else if a < 0 ∧ b < 0 then 0 - a * b else 0
def turnF (f : Nat → Nat → Int) (k : Nat) : Nat → Nat → Int := fun i j => if i = k ∨ j = k then 0 - f i j else f i j + thr (f i k) (f k j)
/-- numbers of less than B bits -/
def Bits (B n : Nat) (f : Nat → Nat → Int) : Prop := 0 < B ∧ B + B ≤ 90000000 ∧ ∀ i j, i < n → j < n → (f i j).natAbs < 2 ^ B
theorem FormOf.bits {n : Nat} {f : Nat → Nat → Int} (h : FormOf n f) : Bits 7 n f := ⟨by decide, by decide, fun i j hi hj => by
  have := (h.2.2 i j hi hj).2
  show _ < 128
  omega⟩
def SmallM (M : List (List Int)) : Prop := M.length ≤ 1000 ∧ ∀ r, r ∈ M → r.length ≤ 1000
theorem small_fm {n : Nat} {f : Nat → Nat → Int} (h : n ≤ 1000) : SmallM (Fm n f) := ⟨by rw [fm_len]; exact h, fun r hr => by
  obtain ⟨i, _, rfl⟩ := List.mem_map.mp hr
  simpa using h⟩
def sp_must_form (K : Frag) (C : Addr) : Sp := fun vs H Q E => ∃ a M, vs = [.ref a] ∧ LLI K H a M ∧ SmallM M ∧ ∀ H', Ex H H' → (IsForm M → Q .non H') ∧ (¬ IsForm M → E (.ref C) none H')
def sp_through : Sp := fun vs H Q _ => ∃ a b, vs = [.int a, .int b] ∧ CMulX a b ∧ ∀ H', Ex H H' → Q (.int (thr a b)) H'
def sp_turned_by (K : Frag) : Sp := fun vs H Q _ => ∃ a n f k B, vs = [.ref a, .int ((k : Nat) : Int)] ∧ LLI K H a (Fm n f) ∧ n ≤ 100 ∧ k < n ∧ Bits B n f ∧ ∀ H' p, Ex H H' → OLLI H H' p (Fm n (turnF f k)) → Q (.ref p) H'
def sp_turned (K : Frag) (CF CB : Addr) : Sp := fun vs H Q E => ∃ a M box, vs = [.ref a, .int box] ∧ LLI K H a M ∧ SmallM M ∧ (¬ IsForm M → ∀ H', Ex H H' → E (.ref CF) none H') ∧
  (∀ n f, M = Fm n f → FormOf n f → (∀ k : Nat, box = k → k < n → ∀ H' p, Ex H H' → OLLI H H' p (Fm n (turnF f k)) → Q (.ref p) H') ∧ ((box < 0 ∨ (n : Int) ≤ box) → ∀ H', Ex H H' → E (.ref CB) none H'))
section
variable {P : Program} {w : World} {K : Frag} {mg : Str → Option Value} {base : Heap} {k : Nat}
theorem ok_must_form (T : Txt K mg) (G_is_form : FnOk P w K mg base CX0 k T.f_is_form T.d_is_form ["form"] (sp_is_form K)) : FnOk P w K mg base (L2.CX P w) (k + 1) T.f_must_form T.d_must_form ["form"] (sp_must_form K T.c_NoForm) := by
  refine T.F_must_form.okX sc_must_form (fun vs H Q E h => ?_) (fun cdv A outer s H vs Q E hr h => ?_)
  · obtain ⟨a, M, rfl, _⟩ := h
    rfl
  · obtain ⟨a, M, rfl, hM, hs, q⟩ := h
    refine ⟨_, (pss_one (ps_if (pt_not (pt_val (pe_call G_is_form hr rfl T.m_is_form T.F_is_form.kp T.b_is_form .nil pass0 (pa_cons (pv 0) pa_nil))))
        (pss_one (ps_raise rfl (takes_of rfl rfl rfl rfl) (pmk_own PySem.F.excBase_ValueError T.x_NoForm.xn T.x_NoForm.g T.x_NoForm.kp (raises_own T.x_NoForm.bs T.x_NoForm.ty) rfl)))
        pss_nil)), ?_⟩
    refine ⟨.ref a, rfl, a, M, rfl, hM, hs.1, hs.2, fun b H1 e1 hb => ?_⟩
    refine ⟨b, rfl, ?_⟩
    cases b with
    | true => exact (q H1 e1).1 (hb.mp rfl)
    | false => exact (q H1 e1).2 fun z => Bool.false_ne_true (hb.mpr z)
theorem ok_through (T : Txt K mg) : FnOk P w K mg base CX0 (k + 1) T.f_through T.d_through ["one", "other"] sp_through := by
  refine T.F_through.ok sc_through (fun vs H Q E h => ?_) (fun cdv A outer s H vs Q E hr h => ?_)
  · obtain ⟨a, b, rfl, _⟩ := h
    rfl
  · obtain ⟨a, b, rfl, hm, q⟩ := h
    refine ⟨_, (pss_cons (ps_if (PW.pt (pw_and (pt_cmpR op_gt (pv 0) pe_int (nomark _)) (pw_and1 (pt_cmpR op_gt (pv 1) pe_int (nomark _)))))
        (pss_one (ps_ret (pe_op op_mulX (pv 0) (pv 1))))
        pss_nil)
      (pss_cons (ps_if (PW.pt (pw_and (pt_cmpR op_lt (pv 0) pe_int (nomark _)) (pw_and1 (pt_cmpR op_lt (pv 1) pe_int (nomark _)))))
        (pss_one (ps_ret (pe_op op_sub pe_int (pe_op op_mulX (pv 0) (pv 1)))))
        pss_nil)
      (pss_one (ps_ret pe_int)))), ?_⟩
    refine q_when (et_and (et_test (ev_op (ev_var rfl) ev_c rv_I0)) fun _ => et_test (ev_op (ev_var rfl) ev_c rv_I0)) (fun hb H1 e1 => s_ret (ev_op (ev_var rfl) (ev_var rfl) (rv_I hm)) fun H2 e2 => ?_) (fun hb H1 e1 => ?_)
    · simp only [Bool.and_eq_true, decide_eq_true_eq] at hb
      have := q H2 (e1.trans e2)
      unfold thr at this
      rw [if_pos hb] at this
      exact this
    · simp only [Bool.and_eq_false_iff, decide_eq_false_iff_not] at hb
      refine q_when (et_and (et_test (ev_op (ev_var rfl) ev_c rv_I0)) fun _ => et_test (ev_op (ev_var rfl) ev_c rv_I0)) (fun hc H2 e2 => s_ret (ev_op ev_c (ev_op (ev_var rfl) (ev_var rfl) (rv_I hm)) rv_I0) fun H3 e3 => ?_) (fun hc H2 e2 => s_ret ev_c fun H3 e3 => ?_)
      · simp only [Bool.and_eq_true, decide_eq_true_eq] at hc
        have := q H3 ((e1.trans e2).trans e3)
        unfold thr at this
        rw [if_neg (by omega), if_pos hc] at this
        exact this
      · simp only [Bool.and_eq_false_iff, decide_eq_false_iff_not] at hc
        have := q H3 ((e1.trans e2).trans e3)
        unfold thr at this
        rw [if_neg (by omega), if_neg (by omega)] at this
        exact this
theorem ok_turned_by (T : Txt K mg) (G_through : FnOk P w K mg base CX0 k T.f_through T.d_through ["one", "other"] sp_through) : FnOk P w K mg base CX0 (k + 1) T.f_turned_by T.d_turned_by ["form", "box"] (sp_turned_by K) := by
  refine T.F_turned_by.ok sc_turned_by (fun vs H Q E h => ?_) (fun cdv A outer s H vs Q E hr h => ?_)
  · obtain ⟨a, n, f, k, B, rfl, _⟩ := h
    rfl
  · obtain ⟨a, n, f, k, B, rfl, hM, hn, hk, hB, q⟩ := h
    refine ⟨_, (pss_cons (ps_set (i := 2) sc_turned_by.nd rfl (.inl rfl) (pe_lst pa_nil))
      (pss_cons (ps_for PassesOwn.never rfl (pi_range1 rfl T.b_range (pa_cons (pe_callB (lenK K) rfl T.b_len PySem.boot_len (pa_cons (pv 0) pa_nil)) pa_nil)) (pg_name (i := 3) sc_turned_by.nd rfl (.inl rfl))
        (pss_cons (ps_set (i := 4) sc_turned_by.nd rfl (.inl rfl) (pe_lst pa_nil))
      (pss_cons (ps_for PassesOwn.never rfl (pi_range1 rfl T.b_range (pa_cons (pe_callB (lenK K) rfl T.b_len PySem.boot_len (pa_cons (pv 0) pa_nil)) pa_nil)) (pg_name (i := 5) sc_turned_by.nd rfl (.inl rfl))
        (pss_one (ps_if (PW.pt (pw_or (pt_cmpR op_eq (pv 3) (pv 1) (nomark _)) (pw_or1 (pt_cmpR op_eq (pv 5) (pv 1) (nomark _)))))
        (pss_one (ps_expr (bmK K PySem.F.plainAttrs_list PySem.F.slot_list_append PySem.F.type_list_append mt_append (pv 4) (pa_cons (pe_op op_sub pe_int (pe_ix (ixL K) (pe_ix (ixL K) (pv 0) (pv 3) (fun _ _ => rfl)) (pv 5) (fun _ _ => rfl))) pa_nil))))
        (pss_one (ps_expr (bmK K PySem.F.plainAttrs_list PySem.F.slot_list_append PySem.F.type_list_append mt_append (pv 4) (pa_cons (pe_op op_add (pe_ix (ixL K) (pe_ix (ixL K) (pv 0) (pv 3) (fun _ _ => rfl)) (pv 5) (fun _ _ => rfl)) (pe_call G_through hr rfl T.m_through T.F_through.kp T.b_through .nil pass0 (pa_cons (pe_ix (ixL K) (pe_ix (ixL K) (pv 0) (pv 3) (fun _ _ => rfl)) (pv 1) (fun _ _ => rfl)) (pa_cons (pe_ix (ixL K) (pe_ix (ixL K) (pv 0) (pv 1) (fun _ _ => rfl)) (pv 5) (fun _ _ => rfl)) pa_nil)))) pa_nil)))))))
      (pss_one (ps_expr (bmK K PySem.F.plainAttrs_list PySem.F.slot_list_append PySem.F.type_list_append mt_append (pv 2) (pa_cons (pv 4) pa_nil)))))))
      (pss_one (ps_ret (pv 2))))), ?_⟩
    have hl : ∀ {σ : St} {H1 : Hp}, σ[0]? = some (some (V.ref a)) → Ex H H1 → EvA (tCons (tCB (rLenS K) (tCons (tVar 0) tNil)) tNil) σ H1 [.int (n : Int)] := fun e e1 => by
      have := ea_cons (ev_lenLLI (K := K) (ev_var e) (hM.mono e1)) ea_nil
      rw [fm_len] at this
      exact this
    refine q_asgL (xs := []) (el_lst ea_nil (by simp)) fun p H1 hp e1 hp1 => ?_
    refine q_forR1 (hl rfl e1) (by omega) (fun i σ' H' => ∃ x3 x4 x5, σ' = [some (.ref a), some (.int (k : Int)), some (.ref p), x3, x4, x5] ∧ Ex H H' ∧ OLLI H H' p ((List.range i).map fun i => (List.range n).map (turnF f k i)))
      (fun H2 e2 => ⟨_, _, _, rfl, e1.trans e2, .nil hp (e2 _ _ hp1)⟩) (fun i σ' H' hi hP => ?_) (fun σ' H' hP => ?_)
    · obtain ⟨x3, x4, x5, rfl, eH, hO⟩ := hP
      have hi' : i < n := by omega
      refine q_asgL (xs := []) (el_lst ea_nil (by simp)) fun r H2 hr e2 hr2 => ?_
      refine q_forR1 (hl rfl (eH.trans e2)) (by omega) (fun j σ' H'' => ∃ x5, σ' = [some (.ref a), some (.int (k : Int)), some (.ref p), some (.int (i : Int)), some (.ref r), x5] ∧ Ex H' H'' ∧ H'' r = some (.lst (((List.range j).map (turnF f k i)).map V.int)))
        (fun H3 e3 => ⟨_, rfl, e2.trans e3, e3 _ _ hr2⟩) (fun j σ' H'' hj hP => ?_) (fun σ' H'' hP => ?_)
      · obtain ⟨x5, rfl, eH', hrow⟩ := hP
        have hj' : j < n := by omega
        have hMj := hM.mono (eH.trans eH')
        have hrl : (((List.range j).map (turnF f k i)).map V.int).length < 100000 := by simp; omega
        have fin : ∀ {H1 : Hp}, Ex H'' H1 → (∃ x5, [some (V.ref a), some (.int (k : Int)), some (.ref p), some (.int (i : Int)), some (.ref r), some (.int (j : Int))] = [some (V.ref a), some (.int (k : Int)), some (.ref p), some (.int (i : Int)), some (.ref r), x5] ∧
            Ex H' (upd H1 r (.lst (((List.range j).map (turnF f k i)).map V.int ++ [.int (turnF f k i j)]))) ∧ (upd H1 r (.lst (((List.range j).map (turnF f k i)).map V.int ++ [.int (turnF f k i j)]))) r = some (.lst (((List.range (j + 1)).map (turnF f k i)).map V.int))) := fun e =>
          ⟨_, rfl, Ex.mut (eH'.trans e) hr, by rw [upd_same, List.range_succ, List.map_append, List.map_append]; rfl⟩
        refine s_if (et_or (et_test (ev_op (ev_var rfl) (ev_var rfl) (rv_eq rfl))) fun _ => et_test (ev_op (ev_var rfl) (ev_var rfl) (rv_eq rfl))) (fun hb H3 e3 => ?_) (fun hb H3 e3 => ?_)
        · have hM3 := hMj.mono e3
          refine s_app (e3 _ _ hrow) (ev_var rfl) (ev_op ev_c (ev_fm (ev_var rfl) (ev_var rfl) (ev_var rfl) hM3 hi' hj') rv_I0) hrl fun H4 e4 => ?_
          have e : turnF f k i j = 0 - f i j := by
            unfold turnF
            rw [if_pos]
            simp only [Bool.or_eq_true, decide_eq_true_eq] at hb
            rcases hb with hb | hb
            · left; injection hb; omega
            · right; injection hb; omega
          have := fin (e3.trans e4)
          rw [e] at this
          exact this
        · have hM3 := hMj.mono e3
          have h1 : ¬ (i = k ∨ j = k) := by
            simp only [Bool.or_eq_false_iff, decide_eq_false_iff_not] at hb
            rintro (z | z)
            · exact hb.1 (by rw [z])
            · exact hb.2 (by rw [z])
          have e : turnF f k i j = f i j + thr (f i k) (f k j) := by
            unfold turnF
            rw [if_neg h1]
          refine s_app (e3 _ _ hrow) (ev_var rfl) (ev_op (ev_fm (ev_var rfl) (ev_var rfl) (ev_var rfl) hM3 hi' hj') (ev_call (z := .int (thr (f i k) (f k j))) (ea_cons (ev_fm (ev_var rfl) (ev_var rfl) (ev_var rfl) hM3 hi' hk) (ea_cons (ev_fm (ev_var rfl) (ev_var rfl) (ev_var rfl) hM3 hk hj') ea_nil)) ?_) rv_I0) hrl fun H4 e4 => ?_
          · intro H4 e4 Q hQ E
            exact ⟨_, _, rfl, wide_mulX (hB.2.2 i k hi' hk) (hB.2.2 k j hk hj') hB.1 hB.1 (by have := hB.2.1; omega), hQ⟩
          · have := fin (e3.trans e4)
            rw [e] at this
            exact this
      · obtain ⟨x5, rfl, eH', hrow⟩ := hP
        obtain ⟨vs, h1, h2, h3, h4⟩ := hO.push eH eH' hr hrow
        refine s_app h1 (ev_var rfl) (ev_var rfl) (by rw [h2]; simp; omega) fun H4 e4 => ?_
        obtain ⟨vs', h1', h2', h3', h4'⟩ := hO.push eH (eH'.trans e4) hr (e4 _ _ hrow)
        have : vs' = vs := by
          have z := h1'.symm.trans (e4 _ _ h1)
          injection z with z
          injection z
        subst this
        refine ⟨_, _, _, rfl, h4', ?_⟩
        rw [List.range_succ, List.map_append]
        exact h3'
    · obtain ⟨x3, x4, x5, rfl, eH, hO⟩ := hP
      exact s_ret (ev_var rfl) fun H2 e2 => q H2 p (eH.trans e2) (hO.mono e2)
end
end AT

namespace AT
open PySem PySem.Spec PyProof.Rows L2 Evl
/-! ### the law's own readers and makers -/
def cellV (ns : List Int) (k : Nat) : Int := if k < ns.length then ns.getD k 0 else ((ns.getD 0 0) % 65521 * 48271 + k * 30103) % 65521
def sp__law_cell (K : Frag) : Sp := fun vs H Q _ => ∃ (a : Addr) (ns : List Int) (k : Nat), vs = [.ref a, .int (k : Int)] ∧ LI K H a ns ∧ k ≤ 100000 ∧ ∀ H', Ex H H' → Q (.int (cellV ns k)) H'
def sp__law_form (K : Frag) : Sp := fun vs H Q _ => ∃ (a : Addr) (ns : List Int) (k most : Nat), vs = [.ref a, .int (k : Int), .int (most : Int)] ∧ LI K H a ns ∧ k ≤ 1000 ∧ 1 ≤ most ∧ most ≤ 6 ∧ ∀ (n : Nat) f H' p, Ex H H' → FormOf n f → (n ≤ most ∧ (n : Int) = 1 + cellV ns k % (most : Int)) → OLLI H H' p (Fm n f) → Q (.ref p) H'
def sp__law_copy (K : Frag) : Sp := fun vs H Q _ => ∃ a M, vs = [.ref a] ∧ LLI K H a M ∧ M.length ≤ 1000 ∧ ∀ H' p, Ex H H' → OLLI H H' p M → Q (.ref p) H'
def sp__law_like (K : Frag) : Sp := fun vs H Q _ => ∃ a b M N, vs = [.ref a, .ref b] ∧ TLL H a M ∧ LLI K H b N ∧ SmallM M ∧ ∀ H', Ex H H' → Q (.bl (decide (M = N))) H'
section
variable {P : Program} {w : World} {K : Frag} {mg : Str → Option Value} {base : Heap} {k : Nat}
theorem ok__law_cell (T : Txt K mg) : FnOk P w K mg base CX0 (k + 1) T.f__law_cell T.d__law_cell ["script", "k"] (sp__law_cell K) := by
  refine T.F__law_cell.ok sc__law_cell (fun vs H Q E h => ?_) (fun cdv A outer s H vs Q E hr h => ?_)
  · obtain ⟨a, ns, k, rfl, _⟩ := h
    rfl
  · obtain ⟨a, ns, k, rfl, hL, hk, q⟩ := h
    refine ⟨_, (pss_cons (ps_if (pt_cmpR op_lt (pv 1) (pe_callB (lenK K) rfl T.b_len PySem.boot_len (pa_cons (pv 0) pa_nil)) (nomark _))
        (pss_one (ps_ret (pe_ix (ixL K) (pv 0) (pv 1) (fun _ _ => rfl))))
        pss_nil)
      (pss_cons (ps_set (i := 2) sc__law_cell.nd rfl (.inl rfl) pe_int)
      (pss_cons (ps_if (pt_cmpR op_gt (pe_callB (lenK K) rfl T.b_len PySem.boot_len (pa_cons (pv 0) pa_nil)) pe_int (nomark _))
        (pss_one (ps_set (i := 2) sc__law_cell.nd rfl (.inl rfl) (pe_ix (ixL K) (pv 0) pe_int (fun _ _ => rfl))))
        pss_nil)
      (pss_one (ps_ret (pe_op op_modN (pe_op op_add (pe_op op_mul (pe_op op_modN (pv 2) pe_int) pe_int) (pe_op op_mul (pv 1) pe_int)) pe_int)))))), ?_⟩
    unfold cellV at q
    refine q_when (et_test (ev_op (ev_var rfl) (ev_lenLI (ev_var rfl) hL) rv_I0)) (fun hb H1 e1 => ?_) (fun hb H1 e1 => ?_)
    · have hk : k < ns.length := by have := of_decide_eq_true hb; omega
      refine s_ret (ev_item (v := ns.getD k 0) (ev_var rfl) (ev_var rfl) (hL.mono e1) (by rw [List.getD_eq_getElem?_getD, List.getElem?_eq_getElem hk]; rfl)) fun H2 e2 => ?_
      have := q H2 (e1.trans e2)
      rw [if_pos hk] at this
      exact this
    · have hk : ¬ k < ns.length := fun z => (of_decide_eq_false hb) (by omega)
      rw [if_neg hk] at q
      have fin : ∀ (b : Int) H1, b = ns.getD 0 0 → Ex H H1 → tRet (tOp (rI (fun _ j => j ≠ 0) fun i j => .int (i.fmod j)) (tOp (rI0 fun i j => .int (i + j)) (tOp (rI CMul fun i j => .int (i * j)) (tOp (rI (fun _ j => j ≠ 0) fun i j => .int (i.fmod j)) (tVar 2) (tC (.int 65521))) (tC (.int 48271))) (tOp (rI CMul fun i j => .int (i * j)) (tVar 1) (tC (.int 30103)))) (tC (.int 65521)))
          { nx := fun _ H' => Q .non H', rt := Q } [some (.ref a), some (.int (k : Int)), some (.int b)] H1 := fun b H1 hb e1 =>
        s_ret (ev_mod (ev_op (ev_op (ev_mod (ev_var rfl) ev_c (by decide)) ev_c (rv_I (.inr ⟨by decide, by decide⟩))) (ev_op (ev_var rfl) ev_c (rv_I (.inr ⟨by decide, by decide⟩))) rv_I0) ev_c (by decide)) fun H2 e2 => by
          rw [hb]
          exact q H2 (e1.trans e2)
      refine q_asg ev_c fun H2 e2 => q_when (et_test (ev_op (ev_lenLI (ev_var rfl) (hL.mono (e1.trans e2))) ev_c rv_I0)) (fun hb H3 e3 => ?_) (fun hb H3 e3 => ?_)
      · have h0 : 0 < ns.length := by have := of_decide_eq_true hb; omega
        exact s_asg (ev_item (i := 0) (v := ns.getD 0 0) (ev_var rfl) ev_c (hL.mono ((e1.trans e2).trans e3)) (by rw [List.getD_eq_getElem?_getD, List.getElem?_eq_getElem h0]; rfl)) fun H4 e4 => fin _ H4 rfl (((e1.trans e2).trans e3).trans e4)
      · have h0 : ns.length = 0 := by have := of_decide_eq_false hb; omega
        exact fin 0 H3 (by rw [List.getD_eq_getElem?_getD, List.getElem?_eq_none (by omega)]; rfl) ((e1.trans e2).trans e3)
/-- a call of it -/
theorem ev_cv {H : Hp} {σ : St} {a : Addr} {ns : List Int} {E : XK} {ta : TA} {j : Nat} (hL : LI K H a ns) (h : EvA ta σ H [.ref a, .int (j : Int)]) (hj : j ≤ 100000) : Ev (tCall (sp__law_cell K) [] E ta) σ H (.int (cellV ns j)) :=
  ev_call h fun H1 e1 Q q E => ⟨a, ns, j, rfl, hL.mono e1, hj, q⟩
theorem ok__law_copy (T : Txt K mg) : FnOk P w K mg base CX0 (k + 1) T.f__law_copy T.d__law_copy ["form"] (sp__law_copy K) := by
  refine T.F__law_copy.ok sc__law_copy (fun vs H Q E h => ?_) (fun cdv A outer s H vs Q E hr h => ?_)
  · obtain ⟨a, M, rfl, _⟩ := h
    rfl
  · obtain ⟨a, M, rfl, hM, hl, q⟩ := h
    refine ⟨_, (pss_one (ps_ret (pe_lc (own := [("numbers", 1)]) rfl sc__law_copy.nd (pi_listK K (pv 0)) (blkOk_by (own := [("numbers", 1)]) (N := N__law_copy) (sc := defScope s__law_copy) (by decide +kernel)) (fun _ _ _ _ _ => (pg_name (i := 1) sc__law_copy.nd rfl (.inl rfl))) (fun _ _ _ _ _ => pts_nil) (fun _ _ _ _ _ => (pe_callTy (listK K) rfl T.b_list (by decide +kernel) (pa_cons (pv 1) pa_nil)))))), ?_⟩
    obtain ⟨as, hA, hP⟩ := id hM
    have hlen := hP.length
    refine sr_ret (em_lcL (fun i => M.getD i []) (ev_var rfl) hA (by rw [List.length_map]; omega) (fun _ => rfl) (fun i x H1 e1 hx => er_of_evl ?_)) fun v H1 e1 ⟨p, hv, hO⟩ => ?_
    · rw [List.getElem?_map] at hx
      cases hy : as[i]? with
      | none => rw [hy] at hx; cases hx
      | some y =>
        rw [hy] at hx
        cases hx
        obtain ⟨r, h1, h2⟩ := paired_getL hP hy
        rw [List.getD_eq_getElem?_getD, h1]
        exact el_list (ev_var rfl) (h2.mono e1)
    · subst hv
      rw [List.length_map, hlen, ← list_eq_range] at hO
      exact q H1 p e1 hO
theorem ok__law_like (T : Txt K mg) : FnOk P w K mg base CX0 (k + 1) T.f__law_like T.d__law_like ["found", "due"] (sp__law_like K) := by
  refine T.F__law_like.ok sc__law_like (fun vs H Q E h => ?_) (fun cdv A outer s H vs Q E hr h => ?_)
  · obtain ⟨a, b, M, N, rfl, _⟩ := h
    rfl
  · obtain ⟨a, b, M, N, rfl, hM, hN, hs, q⟩ := h
    refine ⟨_, (pss_cons (ps_if (PW.pt (pw_or (pt_not (pt_val (pe_callB (isiK K) rfl T.b_isinstance (by decide +kernel) (pa_cons (pv 0) (pa_cons (pe_bltn (v := .ty "list") rfl T.b_list (by decide +kernel) rfl) pa_nil))))) (pw_or1 (pt_cmpR op_ne (pe_callB (lenK K) rfl T.b_len PySem.boot_len (pa_cons (pv 0) pa_nil)) (pe_callB (lenK K) rfl T.b_len PySem.boot_len (pa_cons (pv 1) pa_nil)) (nomark _)))))
        (pss_one (ps_ret pe_bl))
        pss_nil)
      (pss_cons (ps_for PassesOwn.never rfl (pi_zipK K rfl T.b_zip (pa_cons (pv 0) (pa_cons (pv 1) pa_nil))) (pg_tupK K (n := 2) rfl (pgs_cons (pg_name (i := 2) sc__law_like.nd rfl (.inl rfl)) (pgs_cons (pg_name (i := 3) sc__law_like.nd rfl (.inl rfl)) pgs_nil)))
        (pss_cons (ps_if (PW.pt (pw_or (pt_not (pt_val (pe_callB (isiK K) rfl T.b_isinstance (by decide +kernel) (pa_cons (pv 2) (pa_cons (pe_bltn (v := .ty "list") rfl T.b_list (by decide +kernel) rfl) pa_nil))))) (pw_or1 (pt_cmpR op_ne (pe_callB (lenK K) rfl T.b_len PySem.boot_len (pa_cons (pv 2) pa_nil)) (pe_callB (lenK K) rfl T.b_len PySem.boot_len (pa_cons (pv 3) pa_nil)) (nomark _)))))
        (pss_one (ps_ret pe_bl))
        pss_nil)
      (pss_one (ps_for PassesOwn.never rfl (pi_zipK K rfl T.b_zip (pa_cons (pv 2) (pa_cons (pv 3) pa_nil))) (pg_tupK K (n := 2) rfl (pgs_cons (pg_name (i := 4) sc__law_like.nd rfl (.inl rfl)) (pgs_cons (pg_name (i := 5) sc__law_like.nd rfl (.inl rfl)) pgs_nil)))
        (pss_one (ps_if (PW.pt (pw_or (pt_not (pt_val (pe_callB (isiK K) rfl T.b_isinstance (by decide +kernel) (pa_cons (pv 4) (pa_cons (pe_bltn (v := .ty "int") rfl T.b_int (by decide +kernel) rfl) pa_nil))))) (pw_or (pt_val (pe_callB (isiK K) rfl T.b_isinstance (by decide +kernel) (pa_cons (pv 4) (pa_cons (pe_bltn (v := .ty "bool") rfl T.b_bool (by decide +kernel) rfl) pa_nil)))) (pw_or1 (pt_cmpR op_ne (pv 4) (pv 5) (nomark _))))))
        (pss_one (ps_ret pe_bl))
        pss_nil))))))
      (pss_one (ps_ret pe_bl)))), ?_⟩
    have hM' := hM.lli (K := K)
    obtain ⟨as, _, hA, _, hP⟩ := id hM
    obtain ⟨bs, hB, hR⟩ := id hN
    have hlen := hP.length
    have hlen2 := hR.length
    refine q_when (et_or (et_not (et_test (ev_isList (ev_var rfl) hA))) fun _ => et_test (ev_op (ev_lenLLI (ev_var rfl) hM') (ev_lenLLI (ev_var rfl) hN) (rv_ne rfl))) (fun hb H1 e1 => ?_) (fun hb H1 e1 => ?_)
    · refine s_ret ev_c fun H2 e2 => ?_
      have hne : ¬ M = N := fun z => by subst z; simp at hb
      have := q H2 (e1.trans e2)
      rw [decide_eq_false hne] at this
      exact this
    · have hl : M.length = N.length := by
        simp only [Bool.not_true, Bool.false_or, Bool.not_eq_false', decide_eq_true_eq] at hb
        injection hb with hb
        omega
      refine q_forZ (xs := as.map V.ref) (ys := bs.map V.ref) (ea_cons (ev_var rfl) (ea_cons (ev_var rfl) ea_nil)) (sq_of (e1 _ _ hA)) (ex_l e1 hB) (by simp; omega) (fun i σ' H' => ∃ x2 x3 x4 x5, σ' = [some (.ref a), some (.ref b), x2, x3, x4, x5] ∧ Ex H H' ∧ ∀ j, j < i → M[j]? = N[j]?)
        (fun H2 e2 => ⟨_, _, _, _, rfl, e1.trans e2, fun j h => absurd h (Nat.not_lt_zero _)⟩) (fun i σ' H' hP' => by obtain ⟨_, _, _, _, _, eH, _⟩ := hP'; exact ⟨sq_of (eH _ _ hA), ex_l eH hB⟩) (fun i x y T' σ' H' hx hy hP' hT => ?_) (fun σ' H' hP' => ?_)
      · obtain ⟨x2, x3, x4, x5, rfl, eH, hj⟩ := hP'
        have eT : Ex H' (upd H' T' (.tup [x, y])) := Ex.new hT
        rw [List.getElem?_map] at hx hy
        cases hax : as[i]? with
        | none => rw [hax] at hx; cases hx
        | some ax =>
          cases hby : bs[i]? with
          | none => rw [hby] at hy; cases hy
          | some byy =>
            rw [hax] at hx; rw [hby] at hy
            cases hx; cases hy
            obtain ⟨r1, hr1, hO1⟩ := paired_getL hP hax
            obtain ⟨r2, hr2, hO2⟩ := paired_getL hR hby
            have hr1s : r1.length ≤ 1000 := hs.2 _ (List.mem_of_getElem? hr1)
            have hne : r1 ≠ r2 → ∀ H2, Ex (upd H' T' (.tup [.ref ax, .ref byy])) H2 → Q (.bl false) H2 := fun hne H2 e2 => by
              have hMN : ¬ M = N := fun z => hne (by
                subst z
                rw [hr1] at hr2
                exact Option.some.inj hr2)
              have := q H2 ((eH.trans eT).trans e2)
              rw [decide_eq_false hMN] at this
              exact this
            have g1 : ∀ H2, Ex (upd H' T' (.tup [.ref ax, .ref byy])) H2 → H2 ax = some (.lst (r1.map V.int)) := fun H2 e2 => ((eH.trans eT).trans e2) _ _ hO1.2
            have g2 : ∀ H2, Ex (upd H' T' (.tup [.ref ax, .ref byy])) H2 → LI K H2 byy r2 := fun H2 e2 => hO2.mono ((eH.trans eT).trans e2)
            refine q_when (et_or (et_not (et_test (ev_isList (ev_var rfl) (g1 _ (Ex.refl _))))) fun _ => et_test (ev_op (ev_lenLI (xs := r1) (ev_var rfl) (sq_of (g1 _ (Ex.refl _)))) (ev_lenLI (ev_var rfl) (g2 _ (Ex.refl _))) (rv_ne rfl))) (fun hb H2 e2 => ?_) (fun hb H2 e2 => ?_)
            · exact s_ret ev_c fun H3 e3 => hne (fun z => by subst z; simp at hb) H3 (e2.trans e3)
            · have hl2 : r1.length = r2.length := by
                simp only [Bool.not_true, Bool.false_or, Bool.not_eq_false', decide_eq_true_eq] at hb
                injection hb with hb
                omega
              refine s_forZ (xs := r1.map V.int) (ys := r2.map V.int) (ea_cons (ev_var rfl) (ea_cons (ev_var rfl) ea_nil)) (sq_of (g1 _ e2)) (g2 _ e2) (by simp; omega) (fun i' σ' H'' => ∃ x4 x5, σ' = [some (.ref a), some (.ref b), some (.ref ax), some (.ref byy), x4, x5] ∧ Ex (upd H' T' (.tup [.ref ax, .ref byy])) H'' ∧ ∀ j, j < i' → r1[j]? = r2[j]?)
                (fun H3 e3 => ⟨_, _, rfl, e2.trans e3, fun j h => absurd h (Nat.not_lt_zero _)⟩) (fun i' σ' H'' hP'' => by obtain ⟨_, _, _, eH'', _⟩ := hP''; exact ⟨sq_of (g1 _ eH''), g2 _ eH''⟩) (fun i' x y T2 σ' H'' hx hy hP'' hT2 => ?_) (fun σ' H'' hP'' => ?_)
              · obtain ⟨x4, x5, rfl, eH'', hj'⟩ := hP''
                rw [List.getElem?_map] at hx hy
                cases hr1i : r1[i']? with
                | none => rw [hr1i] at hx; cases hx
                | some u1 =>
                  cases hr2i : r2[i']? with
                  | none => rw [hr2i] at hy; cases hy
                  | some u2 =>
                    rw [hr1i] at hx; rw [hr2i] at hy
                    cases hx; cases hy
                    have eT2 : Ex H'' (upd H'' T2 (.tup [.int u1, .int u2])) := Ex.new hT2
                    refine s_when (et_or (et_not (et_test (ev_isInt (ev_var rfl)))) fun _ => et_or (et_test (ev_isIntBool (ev_var rfl))) fun _ => et_test (ev_op (ev_var rfl) (ev_var rfl) (rv_ne rfl))) (fun hb H3 e3 => ?_) (fun hb H3 e3 => ?_)
                    · refine s_ret ev_c fun H4 e4 => hne (fun z => ?_) H4 ((eH''.trans eT2).trans (e3.trans e4))
                      subst z
                      rw [hr1i] at hr2i
                      cases hr2i
                      simp at hb
                    · have hu : u1 = u2 := by
                        simp only [Bool.not_true, Bool.false_or, Bool.not_eq_false', decide_eq_true_eq] at hb
                        injection hb
                      refine ⟨_, _, rfl, (eH''.trans eT2).trans e3, fun j hj => ?_⟩
                      by_cases hji : j = i'
                      · subst hji
                        rw [hr1i, hr2i, hu]
                      · exact hj' j (by omega)
              · obtain ⟨x4, x5, rfl, eH'', hj'⟩ := hP''
                have hrr : r1 = r2 := by
                  apply List.ext_getElem?
                  intro j
                  by_cases hjl : j < r1.length
                  · exact hj' j (by simpa using hjl)
                  · rw [List.getElem?_eq_none (by omega), List.getElem?_eq_none (by omega)]
                refine ⟨_, _, _, _, rfl, (eH.trans eT).trans eH'', fun j hji => ?_⟩
                by_cases hjj : j = i
                · subst hjj
                  rw [hr1, hr2, hrr]
                · exact hj j (by omega)
      · obtain ⟨x2, x3, x4, x5, rfl, eH, hj⟩ := hP'
        have hMN : M = N := by
          apply List.ext_getElem?
          intro j
          by_cases hjl : j < M.length
          · exact hj j (by simp; omega)
          · rw [List.getElem?_eq_none (by omega), List.getElem?_eq_none (by omega)]
        refine s_ret ev_c fun H2 e2 => ?_
        have := q H2 (eH.trans e2)
        rw [decide_eq_true hMN] at this
        exact this
end
end AT

/-! ## the known defs' calls in one word; what turning keeps -/
namespace AT
open PySem PySem.Spec PyProof.Rows L2 Evl
section
variable {K : Frag} {σ : St} {H : Hp} {ta : TA} {te t1 : TE} {a p : Addr} {M : List (List Int)} {ns : List Int} {E : XK} {C1 C2 : Addr}
/-- a form drawn -/
def RForm (most : Nat) : R3 := fun H1 H2 v => ∃ n f p, v = .ref p ∧ FormOf n f ∧ n ≤ most ∧ OLLI H1 H2 p (Fm n f)
theorem mon_RForm {most : Nat} : Mon (RForm most) := ⟨fun e ⟨n, f, p, h1, h2, h3, h4⟩ => ⟨n, f, p, h1, h2, h3, h4.mono e⟩, fun e ⟨n, f, p, h1, h2, h3, h4⟩ => ⟨n, f, p, h1, h2, h3, h4.back e⟩⟩
theorem er_form {j most : Nat} (hL : LI K H a ns) (h : EvA ta σ H [.ref a, .int (j : Int), .int (most : Int)]) (hj : j ≤ 1000) (h1 : 1 ≤ most) (h6 : most ≤ 6) : Er (tCall (sp__law_form K) [] E ta) σ H (RForm most) :=
  er_call mon_RForm h fun H1 e1 Q q E => ⟨a, ns, j, most, rfl, hL.mono e1, hj, h1, h6, fun n f H' p e hf hm hO => q _ H' e ⟨n, f, p, rfl, hf, hm.1, hO⟩⟩
theorem er_copy (h : Ev te σ H (.ref a)) (hM : LLI K H a M) (hl : M.length ≤ 1000) : Er (tCall (sp__law_copy K) [] E (tCons te tNil)) σ H (RM M) :=
  er_call mon_RM (ea_cons h ea_nil) fun H1 e1 Q q E => ⟨a, M, rfl, hM.mono e1, hl, fun H' p e hO => q _ H' e ⟨p, rfl, hO⟩⟩
theorem fmI {n : Nat} {f : Nat → Nat → Int} (hf : FormOf n f) : IsForm (Fm n f) := ⟨n, f, rfl, hf⟩
theorem turnF_ext {n k : Nat} {f g : Nat → Nat → Int} (hk : k < n) (h : ∀ i j, i < n → j < n → f i j = g i j) : Fm n (turnF f k) = Fm n (turnF g k) := fm_ext fun a b ha hb => by
  unfold turnF
  rw [h a b ha hb, h a k ha hk, h k b hk hb]
/-- turned: its promise at a form and a box of it -/
theorem spr_turned {n k : Nat} {f : Nat → Nat → Int} (hf : FormOf n f) (hk : k < n) (hM : LLI K H a (Fm n f)) : SpR (sp_turned K C1 C2) [.ref a, .int (k : Int)] H (RM (Fm n (turnF f k))) := fun H1 e1 Q q E => by
  refine ⟨a, _, _, rfl, hM.mono e1, small_fm (by have := hf.2.1; omega), fun hF => absurd (fmI hf) hF, fun n' f' e hf' => ?_⟩
  obtain ⟨rfl, ee⟩ := fm_inj e
  refine ⟨fun j hj hjn H' p e hO => q _ H' e ⟨p, rfl, ?_⟩, fun z => by omega⟩
  have hji : j = k := by omega
  subst hji
  rw [turnF_ext hjn ee]
  exact hO
theorem er_turned {n k : Nat} {f : Nat → Nat → Int} (hf : FormOf n f) (hk : k < n) (hM : LLI K H a (Fm n f)) (h : EvA ta σ H [.ref a, .int (k : Int)]) : Er (tCall (sp_turned K C1 C2) [] E ta) σ H (RM (Fm n (turnF f k))) :=
  er_call mon_RM h (spr_turned hf hk hM)
theorem spv_is_form (hM : LLI K H a M) (hs : SmallM M) : SpV (sp_is_form K) [.ref a] H (.bl (dec (IsForm M))) := fun H1 e1 Q q E => ⟨a, M, rfl, hM.mono e1, hs.1, hs.2, fun b H2 e2 hb => by rw [dec_eq hb]; exact q H2 e2⟩
/-- a new list of lists is like another one -/
theorem spv_like {b : Addr} {N : List (List Int)} (hO : TLL H a M) (hN : LLI K H b N) (hs : SmallM M) : SpV (sp__law_like K) [.ref a, .ref b] H (.bl (decide (M = N))) := fun H1 e1 Q q E => ⟨a, b, M, N, rfl, hO.mono e1, hN.mono e1, hs, q⟩
theorem ev_likeR {t2 : TE} {b : Addr} {N : List (List Int)} (h1 : Er t1 σ H (RM M)) (h2 : Ev t2 σ H (.ref b)) (hN : LLI K H b N) (hs : SmallM M) : Ev (tCall (sp__law_like K) [] E (tCons t1 (tCons t2 tNil))) σ H (.bl (decide (M = N))) :=
  ev_callR1 h1 (ea_cons h2 ea_nil) fun v1 G1 G2 G3 g1 g2 g3 ⟨c, hc, hOc⟩ => by
    subst hc
    exact spv_like (hOc.tll.mono g3) (hN.mono ((g1.trans g2).trans g3)) hs
theorem er_turnedR {t2 : TE} {n k : Nat} {f : Nat → Nat → Int} (hf : FormOf n f) (hk : k < n) (h1 : Er t1 σ H (RM (Fm n f))) (h2 : Ev t2 σ H (.int (k : Int))) : Er (tCall (sp_turned K C1 C2) [] E (tCons t1 (tCons t2 tNil))) σ H (RM (Fm n (turnF f k))) :=
  er_callR1 mon_RM h1 (ea_cons h2 ea_nil) fun v1 G1 G2 G3 g1 g2 g3 ⟨c, hc, hOc⟩ => by
    subst hc
    exact spr_turned hf hk (hOc.lli.mono g3)
theorem ev_isFormR (h1 : Er t1 σ H (RM M)) (hs : SmallM M) : Ev (tCall (sp_is_form K) [] E (tCons t1 tNil)) σ H (.bl (dec (IsForm M))) :=
  ev_callR1 h1 ea_nil fun v1 G1 G2 G3 g1 g2 g3 ⟨c, hc, hOc⟩ => by
    subst hc
    exact spv_is_form (hOc.lli.mono g3) hs
end

/-! ### the rule of turning: skew, undone by itself -/
def Skew (n : Nat) (f : Nat → Nat → Int) : Prop := ∀ i j, i < n → j < n → f i j = 0 - f j i
theorem FormOf.skew {n : Nat} {f : Nat → Nat → Int} (h : FormOf n f) : Skew n f := fun i j hi hj => (h.2.2 i j hi hj).1
theorem thr_neg (a b : Int) : thr (0 - b) (0 - a) = 0 - thr a b := by
  unfold thr
  have e : (0 - b) * (0 - a) = a * b := by rw [Int.zero_sub, Int.zero_sub, Int.neg_mul_neg, Int.mul_comm]
  rw [e]
  by_cases h1 : 0 < a ∧ 0 < b
  · rw [if_neg (by omega), if_pos (by omega), if_pos h1]
  · by_cases h2 : a < 0 ∧ b < 0
    · rw [if_pos (by omega), if_neg h1, if_pos h2]
      omega
    · rw [if_neg (by omega), if_neg (by omega), if_neg h1, if_neg h2]
      rfl
theorem thr_neg' (a b : Int) : thr (0 - a) (0 - b) = 0 - thr a b := by
  unfold thr
  have e : (0 - a) * (0 - b) = a * b := by rw [Int.zero_sub, Int.zero_sub, Int.neg_mul_neg]
  rw [e]
  by_cases h1 : 0 < a ∧ 0 < b
  · rw [if_neg (by omega), if_pos (by omega), if_pos h1]
  · by_cases h2 : a < 0 ∧ b < 0
    · rw [if_pos (by omega), if_neg h1, if_pos h2]
      omega
    · rw [if_neg (by omega), if_neg (by omega), if_neg h1, if_neg h2]
      rfl
theorem turnF_skew {n k : Nat} {f : Nat → Nat → Int} (hs : Skew n f) (hk : k < n) : Skew n (turnF f k) := fun i j hi hj => by
  unfold turnF
  have h1 := hs i j hi hj
  by_cases h : i = k ∨ j = k
  · rw [if_pos h, if_pos (by omega)]
    omega
  · rw [if_neg h, if_neg (by omega), hs j k hj hk, hs k i hk hi, thr_neg]
    omega
theorem turnF_twice {n k : Nat} {f : Nat → Nat → Int} (hk : k < n) : Fm n (turnF (turnF f k) k) = Fm n f := fm_ext fun i j hi hj => by
  by_cases h : i = k ∨ j = k
  · show (if i = k ∨ j = k then 0 - turnF f k i j else _) = _
    rw [if_pos h]
    unfold turnF
    rw [if_pos h]
    omega
  · show (if i = k ∨ j = k then _ else turnF f k i j + thr (turnF f k i k) (turnF f k k j)) = _
    rw [if_neg h]
    have e1 : turnF f k i j = f i j + thr (f i k) (f k j) := by unfold turnF; rw [if_neg h]
    have e2 : turnF f k i k = 0 - f i k := by unfold turnF; rw [if_pos (.inr rfl)]
    have e3 : turnF f k k j = 0 - f k j := by unfold turnF; rw [if_pos (.inl rfl)]
    rw [e1, e2, e3, thr_neg']
    omega
end AT

namespace AT
open PySem PySem.Spec PyProof.Rows L2 Evl
/-! ### the law's own turning -/
theorem thr_half (a b : Int) : ((if a < 0 then -a else a) * b + a * (if b < 0 then -b else b)) / 2 = thr a b := by
  unfold thr
  by_cases ha : a < 0
  · rw [if_pos ha]
    by_cases hb : b < 0
    · rw [if_pos hb, if_neg (by omega), if_pos ⟨ha, hb⟩, Int.neg_mul, Int.mul_neg]
      generalize a * b = m
      omega
    · rw [if_neg hb, if_neg (by omega), if_neg (by omega), Int.neg_mul]
      generalize a * b = m
      omega
  · rw [if_neg ha]
    by_cases hb : b < 0
    · rw [if_pos hb, if_neg (by omega), if_neg (by omega), Int.mul_neg]
      generalize a * b = m
      omega
    · rw [if_neg hb]
      by_cases h : 0 < a ∧ 0 < b
      · rw [if_pos h]
        generalize a * b = m
        omega
      · rw [if_neg h, if_neg (by omega)]
        have : a = 0 ∨ b = 0 := by omega
        rcases this with rfl | rfl <;> simp
def sp__law_turn (K : Frag) : Sp := sp_turned_by K
section
variable {P : Program} {w : World} {K : Frag} {mg : Str → Option Value} {base : Heap} {k : Nat}
theorem ok__law_turn (T : Txt K mg) : FnOk P w K mg base CX0 (k + 1) T.f__law_turn T.d__law_turn ["form", "box"] (sp__law_turn K) := by
  refine T.F__law_turn.ok sc__law_turn (fun vs H Q E h => ?_) (fun cdv A outer s H vs Q E hr h => ?_)
  · obtain ⟨a, n, f, k, B, rfl, _⟩ := h
    rfl
  · obtain ⟨a, n, f, k, B, rfl, hM, hn, hk, hB, q⟩ := h
    refine ⟨_, (pss_cons (ps_set (i := 2) sc__law_turn.nd rfl (.inl rfl) (pe_callB (lenK K) rfl T.b_len PySem.boot_len (pa_cons (pv 0) pa_nil)))
      (pss_cons (ps_set (i := 3) sc__law_turn.nd rfl (.inl rfl) (pe_lst pa_nil))
      (pss_cons (ps_for PassesOwn.never rfl (pi_range1 rfl T.b_range (pa_cons (pv 2) pa_nil)) (pg_name (i := 4) sc__law_turn.nd rfl (.inl rfl))
        (pss_cons (ps_set (i := 5) sc__law_turn.nd rfl (.inl rfl) (pe_lst pa_nil))
      (pss_cons (ps_for PassesOwn.never rfl (pi_range1 rfl T.b_range (pa_cons (pv 2) pa_nil)) (pg_name (i := 6) sc__law_turn.nd rfl (.inl rfl))
        (pss_cons (ps_par (i := 7) (j := 8) rfl sc__law_turn.nd rfl rfl (by decide) rfl rfl (pa_cons (pe_ix (ixL K) (pe_ix (ixL K) (pv 0) (pv 4) (fun _ _ => rfl)) (pv 1) (fun _ _ => rfl)) (pa_cons (pe_ix (ixL K) (pe_ix (ixL K) (pv 0) (pv 1) (fun _ _ => rfl)) (pv 6) (fun _ _ => rfl)) pa_nil)) rfl)
      (pss_one (ps_if (pt_cmpR (inK K) (pv 1) (pe_tup (pa_cons (pv 4) (pa_cons (pv 6) pa_nil))) rfl)
        (pss_one (ps_expr (bmK K PySem.F.plainAttrs_list PySem.F.slot_list_append PySem.F.type_list_append mt_append (pv 5) (pa_cons (pe_op op_sub pe_int (pe_ix (ixL K) (pe_ix (ixL K) (pv 0) (pv 4) (fun _ _ => rfl)) (pv 6) (fun _ _ => rfl))) pa_nil))))
        (pss_one (ps_expr (bmK K PySem.F.plainAttrs_list PySem.F.slot_list_append PySem.F.type_list_append mt_append (pv 5) (pa_cons (pe_op op_add (pe_ix (ixL K) (pe_ix (ixL K) (pv 0) (pv 4) (fun _ _ => rfl)) (pv 6) (fun _ _ => rfl)) (pe_op op_fdivN (pe_op op_add (pe_op op_mulX (pe_callB absK rfl T.b_abs (by decide +kernel) (pa_cons (pv 7) pa_nil)) (pv 8)) (pe_op op_mulX (pv 7) (pe_callB absK rfl T.b_abs (by decide +kernel) (pa_cons (pv 8) pa_nil)))) pe_int)) pa_nil))))))))
      (pss_one (ps_expr (bmK K PySem.F.plainAttrs_list PySem.F.slot_list_append PySem.F.type_list_append mt_append (pv 3) (pa_cons (pv 5) pa_nil)))))))
      (pss_one (ps_ret (pv 3)))))), ?_⟩
    refine q_asg (ev_lenFm (ev_var rfl) hM) fun H0 e0 => ?_
    refine q_asgL (xs := []) (el_lst ea_nil (by simp)) fun p H1 hp e1 hp1 => ?_
    have hp := fresh_back e0 hp
    have e1 := e0.trans e1
    refine q_forR1 (n := (n : Int)) (ea_cons (ev_var rfl) ea_nil) (by omega) (fun i σ' H' => ∃ x4 x5 x6 x7 x8, σ' = [some (.ref a), some (.int (k : Int)), some (.int (n : Int)), some (.ref p), x4, x5, x6, x7, x8] ∧ Ex H H' ∧ OLLI H H' p ((List.range i).map fun i => (List.range n).map (turnF f k i)))
      (fun H2 e2 => ⟨_, _, _, _, _, rfl, e1.trans e2, .nil hp (e2 _ _ hp1)⟩) (fun i σ' H' hi hP => ?_) (fun σ' H' hP => ?_)
    · obtain ⟨x4, x5, x6, x7, x8, rfl, eH, hO⟩ := hP
      have hi' : i < n := by omega
      refine q_asgL (xs := []) (el_lst ea_nil (by simp)) fun r H2 hr e2 hr2 => ?_
      refine q_forR1 (n := (n : Int)) (ea_cons (ev_var rfl) ea_nil) (by omega) (fun j σ' H'' => ∃ x6 x7 x8, σ' = [some (.ref a), some (.int (k : Int)), some (.int (n : Int)), some (.ref p), some (.int (i : Int)), some (.ref r), x6, x7, x8] ∧ Ex H' H'' ∧ H'' r = some (.lst (((List.range j).map (turnF f k i)).map V.int)))
        (fun H3 e3 => ⟨_, _, _, rfl, e2.trans e3, e3 _ _ hr2⟩) (fun j σ' H'' hj hP => ?_) (fun σ' H'' hP => ?_)
      · obtain ⟨x6, x7, x8, rfl, eH', hrow⟩ := hP
        have hj' : j < n := by omega
        have hMj := hM.mono (eH.trans eH')
        have hrl : (((List.range j).map (turnF f k i)).map V.int).length < 100000 := by simp; omega
        refine q_par (ea_cons (ev_fm (ev_var rfl) (ev_var rfl) (ev_var rfl) hMj hi' hk) (ea_cons (ev_fm (ev_var rfl) (ev_var rfl) (ev_var rfl) hMj hk hj') ea_nil)) fun H3 e3 => ?_
        have eH' := eH'.trans e3
        have hrow := e3 _ _ hrow
        have hMj := hMj.mono e3
        have fin : ∀ {H1 : Hp} {x6 x7 x8 : Option V}, Ex H3 H1 → (∃ y6 y7 y8, [some (V.ref a), some (.int (k : Int)), some (.int (n : Int)), some (.ref p), some (.int (i : Int)), some (.ref r), x6, x7, x8] = [some (V.ref a), some (.int (k : Int)), some (.int (n : Int)), some (.ref p), some (.int (i : Int)), some (.ref r), y6, y7, y8] ∧
            Ex H' (upd H1 r (.lst (((List.range j).map (turnF f k i)).map V.int ++ [.int (turnF f k i j)]))) ∧ (upd H1 r (.lst (((List.range j).map (turnF f k i)).map V.int ++ [.int (turnF f k i j)]))) r = some (.lst (((List.range (j + 1)).map (turnF f k i)).map V.int))) := fun e =>
          ⟨_, _, _, rfl, Ex.mut (eH'.trans e) hr, by rw [upd_same, List.range_succ, List.map_append, List.map_append]; rfl⟩
        refine s_if (et_test (ev_inU (ev_var rfl) (eu_tup (ea_cons (ev_var rfl) (ea_cons (ev_var rfl) ea_nil)) (by show 2 ≤ 100000; decide)) rfl rfl)) (fun hb H4 e4 => ?_) (fun hb H4 e4 => ?_)
        · have hM3 := hMj.mono e4
          refine s_app (e4 _ _ hrow) (ev_var rfl) (ev_op ev_c (ev_fm (ev_var rfl) (ev_var rfl) (ev_var rfl) hM3 hi' hj') rv_I0) hrl fun H5 e5 => ?_
          have e : turnF f k i j = 0 - f i j := by
            unfold turnF
            rw [if_pos]
            simp only [inV, List.any_cons, List.any_nil, eqV, Bool.or_false, Bool.or_eq_true, beq_iff_eq] at hb
            omega
          have := fin (x6 := some (V.int (j : Int))) (x7 := some (.int (f i k))) (x8 := some (.int (f k j))) (e4.trans e5)
          rw [e] at this
          exact this
        · have hM3 := hMj.mono e4
          have h1 : ¬ (i = k ∨ j = k) := by
            simp only [inV, List.any_cons, List.any_nil, eqV, Bool.or_false, Bool.or_eq_false_iff, beq_eq_false_iff_ne] at hb
            omega
          have e : turnF f k i j = f i j + thr (f i k) (f k j) := by
            unfold turnF
            rw [if_neg h1]
          have hab : ∀ x : Int, (if x < 0 then -x else x).natAbs = x.natAbs := fun x => by split <;> omega
          have b1 := hB.2.2 i k hi' hk
          have b2 := hB.2.2 k j hk hj'
          refine s_app (e4 _ _ hrow) (ev_var rfl) (ev_op (ev_fm (ev_var rfl) (ev_var rfl) (ev_var rfl) hM3 hi' hj') (ev_div (ev_op (ev_op (ev_abs (ev_var rfl)) (ev_var rfl) (rv_I (wide_mulX (by rw [hab]; exact b1) b2 hB.1 hB.1 (by have := hB.2.1; omega)))) (ev_op (ev_var rfl) (ev_abs (ev_var rfl)) (rv_I (wide_mulX b1 (by rw [hab]; exact b2) hB.1 hB.1 (by have := hB.2.1; omega)))) rv_I0) ev_c (by decide) (by decide)) rv_I0) hrl fun H5 e5 => ?_
          have := fin (x6 := some (V.int (j : Int))) (x7 := some (.int (f i k))) (x8 := some (.int (f k j))) (e4.trans e5)
          rw [e, ← thr_half] at this
          exact this
      · obtain ⟨x6, x7, x8, rfl, eH', hrow⟩ := hP
        obtain ⟨vs, h1, h2, h3, h4⟩ := hO.push eH eH' hr hrow
        refine s_app h1 (ev_var rfl) (ev_var rfl) (by rw [h2]; simp; omega) fun H4 e4 => ?_
        obtain ⟨vs', h1', h2', h3', h4'⟩ := hO.push eH (eH'.trans e4) hr (e4 _ _ hrow)
        have : vs' = vs := by
          have z := h1'.symm.trans (e4 _ _ h1)
          injection z with z
          injection z
        subst this
        refine ⟨_, _, _, _, _, rfl, h4', ?_⟩
        rw [List.range_succ, List.map_append]
        exact h3'
    · obtain ⟨x4, x5, x6, x7, x8, rfl, eH, hO⟩ := hP
      exact s_ret (ev_var rfl) fun H2 e2 => q H2 p (eH.trans e2) (hO.mono e2)
end
end AT

namespace AT
open PySem PySem.Spec PyProof.Rows L2 Evl L2H
/-! ### which of the five classes an error is of -/
section
variable {K : Frag} {mg : Str → Option Value}
/-- the five -/
def five (T : Txt K mg) : List Addr := [T.c_NoForm, T.c_NoBox, T.c_NoNames, T.c_NoCut, T.c_TooMany]
def sp__law_which (T : Txt K mg) : Addr → Value → Option Addr → Sp := fun a c d vs H Q _ => ∃ (D : Addr) (i : Nat), (five T)[i]? = some D ∧ vs = [.ref a] ∧ c = .ref D ∧ d = none ∧ ∀ H', Ex H H' → Q (.int (i : Int)) H'
/-- the class D is the i-th of the five, and no other -/
structure Which (T : Txt K mg) (D : Addr) (i : Nat) : Prop where
  ex : ExcC K D
  v : PySem.W.kitOne K (.ref D) (.type "ValueError") = some true
  k0 : PySem.W.kitOne K (.ref D) (.ref T.c_NoForm) = some (decide (i = 0))
  k1 : PySem.W.kitOne K (.ref D) (.ref T.c_NoBox) = some (decide (i = 1))
  k2 : PySem.W.kitOne K (.ref D) (.ref T.c_NoNames) = some (decide (i = 2))
  k3 : PySem.W.kitOne K (.ref D) (.ref T.c_NoCut) = some (decide (i = 3))
  k4 : PySem.W.kitOne K (.ref D) (.ref T.c_TooMany) = some (decide (i = 4))
  lt : i < 5
theorem sub_ne {K : Frag} {C D x y : Addr} (h1 : PySem.W.subIn K (.ref C) (.ref C) = some true) (h2 : PySem.W.subIn K (.ref C) (.ref D) = some false) : C = D → false = true := fun e => by
  subst e
  rw [h1] at h2
  cases h2
theorem which_of {T : Txt K mg} {D : Addr} {i : Nat} (h : (five T)[i]? = some D) : Which T D i := by
  have e := h
  unfold five at e
  match i, e with
  | 0, e =>
    cases Option.some.inj e
    exact ⟨T.x_NoForm.excC, T.x_NoForm.kitV, T.x_NoForm.kit T.u_NoForm_NoForm (fun _ => rfl), T.x_NoBox.kit T.u_NoForm_NoBox (sub_ne (x := 0) (y := 0) T.u_NoForm_NoForm T.u_NoForm_NoBox), T.x_NoNames.kit T.u_NoForm_NoNames (sub_ne (x := 0) (y := 0) T.u_NoForm_NoForm T.u_NoForm_NoNames), T.x_NoCut.kit T.u_NoForm_NoCut (sub_ne (x := 0) (y := 0) T.u_NoForm_NoForm T.u_NoForm_NoCut), T.x_TooMany.kit T.u_NoForm_TooMany (sub_ne (x := 0) (y := 0) T.u_NoForm_NoForm T.u_NoForm_TooMany), by decide⟩
  | 1, e =>
    cases Option.some.inj e
    exact ⟨T.x_NoBox.excC, T.x_NoBox.kitV, T.x_NoForm.kit T.u_NoBox_NoForm (sub_ne (x := 0) (y := 0) T.u_NoBox_NoBox T.u_NoBox_NoForm), T.x_NoBox.kit T.u_NoBox_NoBox (fun _ => rfl), T.x_NoNames.kit T.u_NoBox_NoNames (sub_ne (x := 0) (y := 0) T.u_NoBox_NoBox T.u_NoBox_NoNames), T.x_NoCut.kit T.u_NoBox_NoCut (sub_ne (x := 0) (y := 0) T.u_NoBox_NoBox T.u_NoBox_NoCut), T.x_TooMany.kit T.u_NoBox_TooMany (sub_ne (x := 0) (y := 0) T.u_NoBox_NoBox T.u_NoBox_TooMany), by decide⟩
  | 2, e =>
    cases Option.some.inj e
    exact ⟨T.x_NoNames.excC, T.x_NoNames.kitV, T.x_NoForm.kit T.u_NoNames_NoForm (sub_ne (x := 0) (y := 0) T.u_NoNames_NoNames T.u_NoNames_NoForm), T.x_NoBox.kit T.u_NoNames_NoBox (sub_ne (x := 0) (y := 0) T.u_NoNames_NoNames T.u_NoNames_NoBox), T.x_NoNames.kit T.u_NoNames_NoNames (fun _ => rfl), T.x_NoCut.kit T.u_NoNames_NoCut (sub_ne (x := 0) (y := 0) T.u_NoNames_NoNames T.u_NoNames_NoCut), T.x_TooMany.kit T.u_NoNames_TooMany (sub_ne (x := 0) (y := 0) T.u_NoNames_NoNames T.u_NoNames_TooMany), by decide⟩
  | 3, e =>
    cases Option.some.inj e
    exact ⟨T.x_NoCut.excC, T.x_NoCut.kitV, T.x_NoForm.kit T.u_NoCut_NoForm (sub_ne (x := 0) (y := 0) T.u_NoCut_NoCut T.u_NoCut_NoForm), T.x_NoBox.kit T.u_NoCut_NoBox (sub_ne (x := 0) (y := 0) T.u_NoCut_NoCut T.u_NoCut_NoBox), T.x_NoNames.kit T.u_NoCut_NoNames (sub_ne (x := 0) (y := 0) T.u_NoCut_NoCut T.u_NoCut_NoNames), T.x_NoCut.kit T.u_NoCut_NoCut (fun _ => rfl), T.x_TooMany.kit T.u_NoCut_TooMany (sub_ne (x := 0) (y := 0) T.u_NoCut_NoCut T.u_NoCut_TooMany), by decide⟩
  | 4, e =>
    cases Option.some.inj e
    exact ⟨T.x_TooMany.excC, T.x_TooMany.kitV, T.x_NoForm.kit T.u_TooMany_NoForm (sub_ne (x := 0) (y := 0) T.u_TooMany_TooMany T.u_TooMany_NoForm), T.x_NoBox.kit T.u_TooMany_NoBox (sub_ne (x := 0) (y := 0) T.u_TooMany_TooMany T.u_TooMany_NoBox), T.x_NoNames.kit T.u_TooMany_NoNames (sub_ne (x := 0) (y := 0) T.u_TooMany_TooMany T.u_TooMany_NoNames), T.x_NoCut.kit T.u_TooMany_NoCut (sub_ne (x := 0) (y := 0) T.u_TooMany_TooMany T.u_TooMany_NoCut), T.x_TooMany.kit T.u_TooMany_TooMany (fun _ => rfl), by decide⟩
  | n + 5, e => exact absurd e (by simp)
end
section
variable {P : Program} {w : World} {K : Frag} {mg : Str → Option Value} {base : Heap} {k : Nat}
theorem ev_isE {σ : St} {H : Hp} {ta : TE} {D a : Addr} {c : V} {cv : Value} {b : Bool} (ha : Ev ta σ H (.ref a)) (hc : ∀ u, RelV c u → u = cv) (hk : PySem.W.kitOne K (.ref D) cv = some b) : Ev (tCB (rIsE K D a) (tCons ta (tCons (tC c) tNil))) σ H (.bl b) := fun H1 e Q q =>
  ha H1 e _ fun H2 e2 => ⟨c, cv, b, rfl, hc, hk, q H2 e2⟩
theorem ok__law_which (T : Txt K mg) : FnE P w K mg base (k + 1) T.f__law_which T.d__law_which ["e"] (sp__law_which T) := by
  refine Fun.okE T.F__law_which sc__law_which (fun a c d vs H Q E h => ?_) (fun cdv A outer s H vs Q E p c d hz hf hrE h => ?_)
  · obtain ⟨D, i, hD, rfl, _⟩ := h
    rfl
  · obtain ⟨D, i, hD, rfl, rfl, rfl, q⟩ := h
    have W := which_of hD
    have CD := W.ex
    obtain ⟨a, oe⟩ := p
    refine ⟨_, (pss_cons (ps_set (i := 1) sc__law_which.nd rfl (.inl rfl) (pe_lst (pa_cons (pe_callB (call_isP K List.mem_cons_self CD hz hf) rfl T.b_isinstance (by decide +kernel) (pa_cons (pv 0) (pa_cons (pe_glob (v := .ref T.c_NoForm) rfl T.g_NoForm rfl) pa_nil))) (pa_cons (pe_callB (call_isP K List.mem_cons_self CD hz hf) rfl T.b_isinstance (by decide +kernel) (pa_cons (pv 0) (pa_cons (pe_glob (v := .ref T.c_NoBox) rfl T.g_NoBox rfl) pa_nil))) (pa_cons (pe_callB (call_isP K List.mem_cons_self CD hz hf) rfl T.b_isinstance (by decide +kernel) (pa_cons (pv 0) (pa_cons (pe_glob (v := .ref T.c_NoNames) rfl T.g_NoNames rfl) pa_nil))) pa_nil)))))
      (pss_cons (ps_set (i := 1) sc__law_which.nd rfl (.inl rfl) (pe_op op_cat (pv 1) (pe_lst (pa_cons (pe_callB (call_isP K List.mem_cons_self CD hz hf) rfl T.b_isinstance (by decide +kernel) (pa_cons (pv 0) (pa_cons (pe_glob (v := .ref T.c_NoCut) rfl T.g_NoCut rfl) pa_nil))) (pa_cons (pe_callB (call_isP K List.mem_cons_self CD hz hf) rfl T.b_isinstance (by decide +kernel) (pa_cons (pv 0) (pa_cons (pe_glob (v := .ref T.c_TooMany) rfl T.g_TooMany rfl) pa_nil))) pa_nil)))))
      (pss_cons (ps_if (PW.pt (pw_or (pt_not (pt_val (pe_callB (call_isP K List.mem_cons_self CD hz hf) rfl T.b_isinstance (by decide +kernel) (pa_cons (pv 0) (pa_cons (pe_bltn (v := .ty "ValueError") rfl T.b_ValueError (by decide +kernel) rfl) pa_nil))))) (pw_or1 (pt_cmpR op_ne (bmK K PySem.F.plainAttrs_list PySem.F.slot_list_count PySem.F.type_list_count (mt_countB K) (pv 1) (pa_cons pe_bl pa_nil)) pe_int (nomark _)))))
        (pss_one (ps_ret pe_int))
        pss_nil)
      (pss_one (ps_ret (bmK K PySem.F.plainAttrs_list PySem.F.slot_list_index PySem.F.type_list_index (mt_indexK K) (pv 1) (pa_cons pe_bl pa_nil))))))), ?_⟩
    have hc : ∀ {C : Addr} u, RelV (.ref C) u → u = Value.ref C := fun u h => h
    have hv : ∀ u, RelV (.ty "ValueError") u → u = Value.type "ValueError" := fun u h => h
    refine q_asgL (xs := [.bl (decide (i = 0)), .bl (decide (i = 1)), .bl (decide (i = 2))]) (el_lst (ea_cons (ev_isE (ev_var rfl) hc W.k0) (ea_cons (ev_isE (ev_var rfl) hc W.k1) (ea_cons (ev_isE (ev_var rfl) hc W.k2) ea_nil))) (by show 3 ≤ 100000; decide)) fun r H1 hr e1 hr1 => ?_
    refine q_asgL (xs := [.bl (decide (i = 0)), .bl (decide (i = 1)), .bl (decide (i = 2))] ++ [.bl (decide (i = 3)), .bl (decide (i = 4))]) ?_ fun r2 H2 hr2 e2 hr22 => ?_
    · intro H2 e2 Q' q'
      refine ⟨.ref r, rfl, ?_⟩
      refine el_lst (ea_cons (ev_isE (ev_var rfl) hc W.k3) (ea_cons (ev_isE (ev_var rfl) hc W.k4) ea_nil)) (by show 2 ≤ 100000; decide) H2 (Ex.refl _) _ fun b H3 hb e3 hb3 => ?_
      exact ⟨r, b, _, _, rfl, rfl, (e2.trans e3) _ _ hr1, hb3, by show 3 + 2 ≤ sizeLine; decide, fun p hp => q' p _ (fresh_back e3 hp) (e3.trans (Ex.new hp)) upd_same⟩
    · have hk : ([.bl (decide (i = 0)), .bl (decide (i = 1)), .bl (decide (i = 2))] ++ [.bl (decide (i = 3)), .bl (decide (i = 4))] : List V) = [decide (i = 0), decide (i = 1), decide (i = 2), decide (i = 3), decide (i = 4)].map V.bl := rfl
      rw [hk] at hr22
      have hcnt : [decide (i = 0), decide (i = 1), decide (i = 2), decide (i = 3), decide (i = 4)].count true = 1 := by
        have := W.lt
        rcases (show i = 0 ∨ i = 1 ∨ i = 2 ∨ i = 3 ∨ i = 4 by omega) with rfl | rfl | rfl | rfl | rfl <;> rfl
      have hev : Ev (tBM K "list" (rCntB K) (tVar 1) (tCons (tC (.bl true)) tNil)) [some (.ref a), some (.ref r2)] H2 (.int ((1 : Nat) : Int)) := fun H3 e3 Q' q' => by
        refine ⟨.ref r2, rfl, .inl ⟨rfl, _, sq_of (e3 _ _ hr22)⟩, r2, _, true, rfl, rfl, sq_of (e3 _ _ hr22), ?_⟩
        rw [hcnt]
        exact q' H3 (Ex.refl _)
      refine q_when (et_or (et_not (et_test (ev_isE (ev_var rfl) hv W.v))) fun _ => et_test (ev_op hev ev_c (rv_ne rfl))) (fun hb H3 e3 => ?_) (fun hb H3 e3 => ?_)
      · exact absurd hb (by decide)
      · refine s_ret (v := .int (i : Int)) (fun H4 e4 Q' q' => ?_) fun H4 e4 => q H4 (((e1.trans e2).trans e3).trans e4)
        refine ⟨.ref r2, rfl, .inl ⟨rfl, _, sq_of ((e3.trans e4) _ _ hr22)⟩, r2, _, .bl true, i, .bl true, rfl, rfl, sq_of ((e3.trans e4) _ _ hr22), rfl, rfl, ?_, rfl, fun m z hm hz => ?_, q' H4 (Ex.refl _)⟩
        · have := W.lt
          rcases (show i = 0 ∨ i = 1 ∨ i = 2 ∨ i = 3 ∨ i = 4 by omega) with rfl | rfl | rfl | rfl | rfl <;> rfl
        · have := W.lt
          rcases (show i = 0 ∨ i = 1 ∨ i = 2 ∨ i = 3 ∨ i = 4 by omega) with rfl | rfl | rfl | rfl | rfl <;> rcases (show m = 0 ∨ m = 1 ∨ m = 2 ∨ m = 3 by omega) with rfl | rfl | rfl | rfl <;> first | omega | (cases hz; rfl)
end
end AT

/-! ## names: lists of all boxes' numbers -/
namespace AT
open PySem PySem.Spec PyProof.Rows L2 Evl
def nI (ps : List Nat) : List Int := ps.map fun x : Nat => (x : Int)
theorem nI_len {ps : List Nat} : (nI ps).length = ps.length := by unfold nI; rw [List.length_map]
/-- ps names the n boxes -/
def Names (n : Nat) (ps : List Nat) : Prop := ps.Perm (List.range n)
def IsNames (n : Nat) (xs : List Int) : Prop := xs.Perm (nI (List.range n))
theorem Names.len {n : Nat} {ps : List Nat} (h : Names n ps) : ps.length = n := by rw [h.length_eq, List.length_range]
theorem Names.nd {n : Nat} {ps : List Nat} (h : Names n ps) : ps.Nodup := (List.Perm.nodup_iff h).mpr List.nodup_range
theorem Names.mem {n : Nat} {ps : List Nat} (h : Names n ps) {x : Nat} : x ∈ ps ↔ x < n := by rw [List.Perm.mem_iff h, List.mem_range]
theorem Names.lt {n i : Nat} {ps : List Nat} (h : Names n ps) (hi : i < n) : ∃ x, ps[i]? = some x ∧ x < n := by
  have hl : i < ps.length := by rw [h.len]; exact hi
  exact ⟨ps[i], List.getElem?_eq_getElem hl, h.mem.mp (List.getElem_mem hl)⟩
theorem Names.ix {n k : Nat} {ps : List Nat} (h : Names n ps) (hk : k < n) : ps.idxOf k < n := by
  have := List.idxOf_lt_length_iff.mpr (h.mem.mpr hk)
  rw [h.len] at this
  exact this
theorem Names.at_ix {n k : Nat} {ps : List Nat} (h : Names n ps) (hk : k < n) : ps[ps.idxOf k]? = some k := by
  have hl := List.idxOf_lt_length_iff.mpr (h.mem.mpr hk)
  rw [List.getElem?_eq_getElem hl, List.getElem_idxOf]
theorem Names.ix_at {n i x : Nat} {ps : List Nat} (h : Names n ps) (hx : ps[i]? = some x) : ps.idxOf x = i := by
  obtain ⟨hi, e⟩ := List.getElem?_eq_some_iff.mp hx
  rw [← e]
  exact h.nd.idxOf_getElem i hi
theorem isNames_iff {n : Nat} {xs : List Int} : IsNames n xs ↔ ∃ ps, Names n ps ∧ xs = nI ps := by
  constructor
  · intro h
    have hx : ∀ x, x ∈ xs → 0 ≤ x := fun x hx => by
      obtain ⟨y, _, rfl⟩ := List.mem_map.mp ((List.Perm.mem_iff h).mp hx)
      omega
    refine ⟨xs.map Int.toNat, ?_, ?_⟩
    · have := h.map Int.toNat
      have e : (nI (List.range n)).map Int.toNat = List.range n := by
        unfold nI
        rw [List.map_map]
        conv => rhs; rw [← List.map_id (List.range n)]
        exact List.map_congr_left fun x _ => by simp
      rw [e] at this
      exact this
    · unfold nI
      rw [List.map_map]
      conv => lhs; rw [← List.map_id xs]
      exact List.map_congr_left fun x hx' => by have := hx x hx'; simp; omega
  · rintro ⟨ps, h, rfl⟩
    exact h.map _
/-- f renamed: at the names of two boxes what stood at the two -/
def renF (f : Nat → Nat → Int) (ps : List Nat) : Nat → Nat → Int := fun i j => f (ps.idxOf i) (ps.idxOf j)
theorem idx_nI (ps : List Nat) (k : Nat) : (nI ps).idxOf (k : Int) = ps.idxOf k := by
  induction ps with
  | nil => rfl
  | cons a r ih =>
    show List.idxOf (k : Int) ((a : Int) :: nI r) = _
    rw [List.idxOf_cons, List.idxOf_cons, ih]
    by_cases e : a = k
    · subst e; simp
    · have : ¬ (a : Int) = (k : Int) := by omega
      have e1 : (a == k) = false := by simpa using e
      have e2 : ((a : Int) == (k : Int)) = false := by simpa using this
      rw [e1, e2]
def sp_renamed_by (K : Frag) : Sp := fun vs H Q _ => ∃ a b n f ps, vs = [.ref a, .ref b] ∧ LLI K H a (Fm n f) ∧ LI K H b (nI ps) ∧ Names n ps ∧ n ≤ 100 ∧ ∀ H' p, Ex H H' → OLLI H H' p (Fm n (renF f ps)) → Q (.ref p) H'
def sp_renamed (K : Frag) (CF CN : Addr) : Sp := fun vs H Q E => ∃ a b M xs, vs = [.ref a, .ref b] ∧ LLI K H a M ∧ SmallM M ∧ LI K H b xs ∧ xs.length < 64 ∧ (¬ IsForm M → ∀ H', Ex H H' → E (.ref CF) none H') ∧
  (∀ n f, M = Fm n f → FormOf n f → (¬ IsNames n xs → ∀ H', Ex H H' → E (.ref CN) none H') ∧ (∀ ps, Names n ps → xs = nI ps → ∀ H' p, Ex H H' → OLLI H H' p (Fm n (renF f ps)) → Q (.ref p) H'))
def sp__law_renamed (K : Frag) : Sp := sp_renamed_by K
def sp__law_some_names (K : Frag) : Sp := fun vs H Q _ => ∃ (a : Addr) (ns : List Int) (k n : Nat), vs = [.ref a, .int (k : Int), .int (n : Int)] ∧ LI K H a ns ∧ k ≤ 1000 ∧ n ≤ 20 ∧ ∀ ps H' p, Ex H H' → Names n ps → OLI H H' p (nI ps) → Q (.ref p) H'
section
variable {P : Program} {w : World} {K : Frag} {mg : Str → Option Value} {base : Heap} {k : Nat}
theorem idx_first {xs : List Int} {k : Int} {m : Nat} {z : Int} (hm : m < xs.idxOf k) (hz : xs[m]? = some z) : z ≠ k := fun e => by
  subst e
  obtain ⟨h, e⟩ := List.getElem?_eq_some_iff.mp hz
  have := List.not_of_lt_findIdx (p := (· == z)) (xs := xs) (show m < List.findIdx (· == z) xs from hm)
  simp at this
  exact this e
/-- xs.index(k) -/
theorem ev_index {σ : St} {H : Hp} {a : Addr} {xs : List Int} {k : Int} {ta tb : TE} (ha : Ev ta σ H (.ref a)) (hb : Ev tb σ H (.int k)) (hL : LI K H a xs) (hk : k ∈ xs) : Ev (tBM K "list" (rIndex K) ta (tCons tb tNil)) σ H (.int ((xs.idxOf k : Nat) : Int)) := fun H1 e Q q =>
  ha H1 e _ fun H2 e2 => ⟨.inl ⟨rfl, _, hL.mono (e.trans e2)⟩, hb H2 (e.trans e2) _ fun H3 e3 => ⟨a, xs.map V.int, .int k, xs.idxOf k, .int k, rfl, rfl, hL.mono ((e.trans e2).trans e3), rfl, by simp [flatV], by
    have hl := List.idxOf_lt_length_iff.mpr hk
    rw [List.getElem?_map, List.getElem?_eq_getElem hl, List.getElem_idxOf]
    rfl, by simp [eqV], fun m z hm hz => by
    rw [List.getElem?_map] at hz
    cases h : xs[m]? with
    | none => rw [h] at hz; cases hz
    | some y =>
      rw [h] at hz
      cases hz
      simpa [eqV] using idx_first hm h, q H3 (e2.trans e3)⟩⟩
/-- list(range(n)) -/
theorem el_rangeL {σ : St} {H : Hp} {n : Nat} {ta : TE} (ha : Ev ta σ H (.int (n : Int))) (hn : n ≤ 100000) : EvL (tLstRg (tRg1 ta)) σ H ((nI (List.range n)).map V.int) := fun H1 e Q q =>
  ha H1 e _ fun H2 e2 => ⟨(n : Int), rfl, RgOk.of_le (by omega) (by omega) (by omega) (by omega), fun p hp => by
    refine q p _ (fresh_back e2 hp) (e2.trans (Ex.new hp)) ?_
    rw [upd_same]
    unfold rgV nI
    rw [List.map_map, show ((n : Int) - 0).toNat = n by omega]
    congr 2
    exact List.map_congr_left fun x _ => by simp⟩
/-- sorted(xs) == list(range(n)), != -/
theorem sorted_range {n : Nat} {xs ys : List Int} (h1 : ys.Perm xs) (h2 : ys.Pairwise (· ≤ ·)) : decide (ys = nI (List.range n)) = dec (IsNames n xs) := dec_eq (by
  rw [decide_eq_true_eq]
  constructor
  · rintro rfl
    exact h1.symm
  · intro h
    refine List.Perm.eq_of_pairwise (fun a b _ _ h1 h2 => Int.le_antisymm h1 h2) h2 ?_ (h1.trans h)
    unfold nI
    rw [List.pairwise_map]
    exact List.pairwise_lt_range.imp fun h => by omega)
theorem er_sorted {σ : St} {H : Hp} {a : Addr} {xs : List Int} {ta : TE} (ha : Ev ta σ H (.ref a)) (hL : LI K H a xs) (h64 : xs.length < 64) : Er (tCB (rSorted K) (tCons ta tNil)) σ H (fun H1 H2 v => ∃ (p : Addr) (ys : List Int), v = .ref p ∧ H1 p = none ∧ ys.Perm xs ∧ ys.Pairwise (· ≤ ·) ∧ H2 p = some (.lst (ys.map V.int))) := fun H1 e Q q =>
  ha H1 e _ fun H2 e2 => ⟨a, xs, rfl, hL.mono (e.trans e2), h64, fun ys p h1 h2 hp => q _ _ (e2.trans (Ex.new hp)) ⟨p, ys, rfl, fresh_back e2 hp, h1, h2, upd_same⟩⟩
theorem ev_isNames {σ : St} {H : Hp} {a : Addr} {n : Nat} {xs : List Int} {ta tb : TE} (ha : Ev ta σ H (.ref a)) (hb : Ev tb σ H (.int (n : Int))) (hL : LI K H a xs) (h64 : xs.length < 64) (hn : n ≤ 100000) :
    Ev (tOp (rEqD K) (tCB (rSorted K) (tCons ta tNil)) (tLstRg (tRg1 tb))) σ H (.bl (dec (IsNames n xs))) := fun H1 e Q q =>
  er_sorted ha hL h64 H1 e _ fun v H2 e2 ⟨p, ys, hv, hp0, h1, h2, hp⟩ => by
    subst hv
    refine el_rangeL hb hn H2 (e.trans e2) _ fun r H3 hr e3 hr3 => ?_
    rw [← sorted_range h1 h2] at q
    exact rv_eqI (sq_of (e3 _ _ hp)) (sq_of hr3) H3 (Ex.refl _) Q fun H4 e4 => q H4 ((e2.trans e3).trans e4)
theorem ev_isNotNames {σ : St} {H : Hp} {a : Addr} {n : Nat} {xs : List Int} {ta tb : TE} (ha : Ev ta σ H (.ref a)) (hb : Ev tb σ H (.int (n : Int))) (hL : LI K H a xs) (h64 : xs.length < 64) (hn : n ≤ 100000) :
    Ev (tOp (rNeD K) (tCB (rSorted K) (tCons ta tNil)) (tLstRg (tRg1 tb))) σ H (.bl (!dec (IsNames n xs))) := fun H1 e Q q =>
  er_sorted ha hL h64 H1 e _ fun v H2 e2 ⟨p, ys, hv, hp0, h1, h2, hp⟩ => by
    subst hv
    refine el_rangeL hb hn H2 (e.trans e2) _ fun r H3 hr e3 hr3 => ?_
    rw [← sorted_range h1 h2] at q
    exact rv_neI (sq_of (e3 _ _ hp)) (sq_of hr3) H3 (Ex.refl _) Q fun H4 e4 => q H4 ((e2.trans e3).trans e4)
theorem nI_erase (ls : List Nat) (i : Nat) : (nI ls).eraseIdx i = nI (ls.eraseIdx i) := map_erase _ ls i
theorem perm_erase : ∀ (ls : List Nat) (i : Nat) (h : i < ls.length), (ls[i] :: ls.eraseIdx i).Perm ls
  | a :: r, 0, _ => List.Perm.refl _
  | a :: r, i + 1, h => by
    have ih := perm_erase r i (by simpa using h)
    show (r[i]'(by simpa using h) :: a :: r.eraseIdx i).Perm (a :: r)
    exact (List.Perm.swap _ _ _).trans (ih.cons a)
theorem nI_get {ps : List Nat} {i x : Nat} (h : ps[i]? = some x) : (nI ps)[i]? = some (x : Int) := by unfold nI; rw [List.getElem?_map, h]; rfl
theorem ok_renamed_by (T : Txt K mg) : FnOk P w K mg base CX0 (k + 1) T.f_renamed_by T.d_renamed_by ["form", "names"] (sp_renamed_by K) := by
  refine T.F_renamed_by.ok sc_renamed_by (fun vs H Q E h => ?_) (fun cdv A outer s H vs Q E hr h => ?_)
  · obtain ⟨a, b, n, f, ps, rfl, _⟩ := h
    rfl
  · obtain ⟨a, b, n, f, ps, rfl, hM, hN, hps, hn, q⟩ := h
    refine ⟨_, (pss_cons (ps_set (i := 2) sc_renamed_by.nd rfl (.inr rfl) (pe_callB (lenK K) rfl T.b_len PySem.boot_len (pa_cons (pv 0) pa_nil)))
      (pss_cons (ps_set (i := 3) sc_renamed_by.nd rfl (.inr rfl) (pe_lc (own := [("k", 4)]) rfl sc_renamed_by.nd (pi_range1 rfl T.b_range (pa_cons (pv 2) pa_nil)) (blkOk_by (own := [("k", 4)]) (N := N_renamed_by) (sc := defScope s_renamed_by) (by decide +kernel)) (fun _ _ _ _ _ => (pg_name (i := 4) sc_renamed_by.nd rfl (.inl rfl))) (fun _ _ _ _ _ => pts_nil) (fun _ _ _ _ _ => (bmK K PySem.F.plainAttrs_list PySem.F.slot_list_index PySem.F.type_list_index (mt_indexK K) (pv 1) (pa_cons (pv 4) pa_nil)))))
      (pss_one (ps_ret (pe_lc (own := [("i", 5)]) rfl sc_renamed_by.nd (pi_range1 rfl T.b_range (pa_cons (pv 2) pa_nil)) (blkOk_by (own := [("i", 5)]) (N := N_renamed_by) (sc := defScope s_renamed_by) (by decide +kernel)) (fun _ _ _ _ _ => (pg_name (i := 5) sc_renamed_by.nd rfl (.inr rfl))) (fun _ _ _ _ _ => pts_nil) (fun _ _ _ _ _ => (pe_lc (own := [("j", 6)]) rfl sc_renamed_by.nd (pi_range1 rfl T.b_range (pa_cons (pv 2) pa_nil)) (blkOk_by (own := [("j", 6)]) (N := N_renamed_by) (sc := relS { kind := .function, names := [(PySem.Str.ofString ".0", PySem.NameKind.local), (PySem.Str.ofString "i", PySem.NameKind.cell), (PySem.Str.ofString "range", PySem.NameKind.globalImplicit), (PySem.Str.ofString "count", PySem.NameKind.free), (PySem.Str.ofString "form", PySem.NameKind.free), (PySem.Str.ofString "place", PySem.NameKind.free)], isGenerator := false, isCoroutine := false, more := [] } (defScope s_renamed_by)) (by decide +kernel)) (fun _ _ _ _ _ => (pg_name (i := 6) sc_renamed_by.nd rfl (.inl rfl))) (fun _ _ _ _ _ => pts_nil) (fun _ _ _ _ _ => (pe_ix (ixL K) (pe_ix (ixL K) (pv 0) (pe_ix (ixL K) (pv 3) (pv 5) (fun _ _ => rfl)) (fun _ _ => rfl)) (pe_ix (ixL K) (pv 3) (pv 6) (fun _ _ => rfl)) (fun _ _ => rfl)))))))))), ?_⟩
    refine q_asg (ev_lenFm (ev_var rfl) hM) fun H1 e1 => ?_
    refine q_asgL (xs := given ((n : Nat) : Int).toNat (fun _ => true) fun i => .int ((ps.idxOf i : Nat) : Int)) (el_lcR1 (n := (n : Int)) (fun _ => true) (fun i => .int ((ps.idxOf i : Nat) : Int)) (ea_cons (ev_var rfl) ea_nil) (by omega) (fun _ => rfl) (fun _ _ _ _ _ _ Q q => q _ (Ex.refl _)) (fun i H2 e2 hi _ => ?_)) fun pl H2 hpl e2 hpl2 => ?_
    · rw [← idx_nI]
      exact ev_index (ev_var rfl) (ev_var rfl) (hN.mono (e1.trans e2)) (by
        unfold nI
        exact List.mem_map.mpr ⟨i, hps.mem.mpr (by omega), rfl⟩)
    have hP : LI K H2 pl (nI ((List.range n).map ps.idxOf)) := sq_of (by
      rw [hpl2]
      unfold given nI
      rw [filt_all, Int.toNat_natCast, List.map_map, List.map_map]
      rfl)
    refine sr_ret (em_lcR (n := (n : Int)) (fun i => (List.range n).map (renF f ps i)) (ea_cons (ev_var rfl) ea_nil) (by omega) (fun _ => rfl) (fun i H3 e3 hi => er_of_evl ?_)) fun v H3 e3 ⟨p, hv, hO⟩ => ?_
    · have hi' : i < n := by omega
      have hP3 := hP.mono e3
      have hM3 := hM.mono ((e1.trans e2).trans e3)
      have := el_lcR1 (n := (n : Int)) (σ := (wipe [some (V.ref a), some (.ref b), some (.int (n : Int)), some (.ref pl), none, none, none] [5]).set 5 (some (.int (i : Int)))) (H := H3) (ta := tCons (tVar 2) tNil) (j := 6) (vs := [6]) (t := tYes) (te := tOp (rIxL K) (tOp (rIxL K) (tVar 0) (tOp (rIxL K) (tVar 3) (tVar 5))) (tOp (rIxL K) (tVar 3) (tVar 6))) (fun _ => true) (fun j => .int (renF f ps i j)) (ea_cons (ev_var rfl) ea_nil) (by omega) (fun _ => rfl) (fun _ _ _ _ _ _ Q q => q _ (Ex.refl _)) (fun j H4 e4 hj _ => by
        have hj' : j < n := by omega
        exact ev_fm (n := n) (f := f) (i := ps.idxOf i) (j := ps.idxOf j) (ev_var rfl) (ev_item (ev_var rfl) (ev_var rfl) (hP3.mono e4) (nI_get (mapr_get hi'))) (ev_item (ev_var rfl) (ev_var rfl) (hP3.mono e4) (nI_get (mapr_get hj'))) (hM3.mono e4) (hps.ix hi') (hps.ix hj'))
      unfold given at this
      rw [filt_all] at this
      rw [List.map_map]
      exact this
    · subst hv
      exact q H3 p ((e1.trans e2).trans e3) (hO.back (e1.trans e2))
end
end AT

/-! ## all names, one behind the other; the first that lead from one form to another (plain Lean) -/
namespace AT
theorem perm_of_sub {α : Type} [BEq α] [LawfulBEq α] : ∀ {l l' : List α}, l.Nodup → (∀ x, x ∈ l → x ∈ l') → l'.length ≤ l.length → l.Perm l'
  | [], l', _, _, h => by
    have : l' = [] := List.eq_nil_of_length_eq_zero (by simpa using h)
    subst this
    exact List.Perm.refl _
  | a :: t, l', nd, hs, hl => by
    rw [List.nodup_cons] at nd
    have ha : a ∈ l' := hs a List.mem_cons_self
    have hp := List.perm_cons_erase ha
    refine List.Perm.trans (List.Perm.cons a ?_) hp.symm
    refine perm_of_sub nd.2 (fun x hx => ?_) ?_
    · have hxa : x ≠ a := fun e => nd.1 (e ▸ hx)
      exact (List.mem_erase_of_ne hxa).mpr (hs x (List.mem_cons_of_mem _ hx))
    · have := hp.length_eq
      simp only [List.length_cons] at this hl
      omega
def ext (n : Nat) (ps : List Nat) : List (List Nat) := ((List.range n).filter fun x => decide (x ∉ ps)).map fun x => ps ++ [x]
def allAt (n : Nat) : Nat → List (List Nat)
  | 0 => [[]]
  | t + 1 => (allAt n t).flatMap (ext n)
def comp (n : Nat) : Nat → List Nat → List (List Nat)
  | 0, ps => [ps]
  | d + 1, ps => (ext n ps).flatMap (comp n d)
theorem comp_add (n s : Nat) : ∀ (t : Nat) (ps : List Nat), comp n (t + s) ps = (comp n t ps).flatMap (comp n s)
  | 0, ps => by
    rw [Nat.zero_add]
    show comp n s ps = [ps].flatMap (comp n s)
    simp
  | t + 1, ps => by
    rw [show t + 1 + s = (t + s) + 1 by omega]
    show (ext n ps).flatMap (comp n (t + s)) = ((ext n ps).flatMap (comp n t)).flatMap (comp n s)
    rw [List.flatMap_assoc]
    congr 1
    funext q
    exact comp_add n s t q
theorem allAt_comp (n : Nat) : ∀ t, allAt n t = comp n t []
  | 0 => rfl
  | t + 1 => by
    rw [comp_add n 1 t []]
    show (allAt n t).flatMap (ext n) = _
    rw [allAt_comp n t]
    congr 1
    funext q
    show ext n q = (ext n q).flatMap fun x => [x]
    simp
/-- so many boxes named, each once -/
structure Part (n : Nat) (ps : List Nat) : Prop where
  nd : ps.Nodup
  lt : ∀ x, x ∈ ps → x < n
theorem Part.snoc {n x : Nat} {ps : List Nat} (h : Part n ps) (hx : x < n) (hn : x ∉ ps) : Part n (ps ++ [x]) := ⟨by
  rw [List.nodup_append]
  exact ⟨h.nd, by simp, fun a ha b hb => by
    have : b = x := by simpa using hb
    subst this
    exact fun e => hn (e ▸ ha)⟩, fun y hy => by
  rcases List.mem_append.mp hy with hy | hy
  · exact h.lt y hy
  · have : y = x := by simpa using hy
    omega⟩
theorem part_nil {n : Nat} : Part n [] := ⟨List.nodup_nil, fun _ h => by cases h⟩
theorem mem_ext {n : Nat} {ps qs : List Nat} : qs ∈ ext n ps ↔ ∃ x, x < n ∧ x ∉ ps ∧ qs = ps ++ [x] := by
  unfold ext
  simp only [List.mem_map, List.mem_filter, List.mem_range, decide_eq_true_eq]
  constructor
  · rintro ⟨x, ⟨h1, h2⟩, rfl⟩
    exact ⟨x, h1, h2, rfl⟩
  · rintro ⟨x, h1, h2, rfl⟩
    exact ⟨x, ⟨h1, h2⟩, rfl⟩
theorem comp_part {n : Nat} : ∀ {d : Nat} {ps qs : List Nat}, Part n ps → qs ∈ comp n d ps → Part n qs ∧ qs.length = ps.length + d ∧ ps <+: qs
  | 0, ps, qs, h, hq => by
    have : qs = ps := by simpa [comp] using hq
    subst this
    exact ⟨h, rfl, List.prefix_refl _⟩
  | d + 1, ps, qs, h, hq => by
    obtain ⟨rs, h1, h2⟩ := List.mem_flatMap.mp (show qs ∈ (ext n ps).flatMap (comp n d) from hq)
    obtain ⟨x, hx, hn, rfl⟩ := mem_ext.mp h1
    obtain ⟨q1, q2, q3⟩ := comp_part (h.snoc hx hn) h2
    exact ⟨q1, by rw [q2]; simp; omega, (List.prefix_append _ _).trans q3⟩
theorem findSome_fm {α β γ : Type} (p : α → Bool) (g : α → β) (h : β → Option γ) : ∀ l : List α, ((l.filter p).map g).findSome? h = l.findSome? fun x => if p x = true then h (g x) else none
  | [] => rfl
  | a :: r => by
    have ih := findSome_fm p g h r
    by_cases e : p a = true
    · rw [List.filter_cons_of_pos e, List.map_cons, List.findSome?_cons, List.findSome?_cons, if_pos e, ih]
    · rw [List.filter_cons_of_neg e, List.findSome?_cons, if_neg e, ih]
/-- the names lead from f to g -/
def Lead (n : Nat) (f g : Nat → Nat → Int) (qs : List Nat) : Prop := ∀ i j, i < n → j < n → g (qs.getD i 0) (qs.getD j 0) = f i j
/-- .. so far -/
def LeadTo (f g : Nat → Nat → Int) (ps : List Nat) : Prop := ∀ i j, i < ps.length → j < ps.length → g (ps.getD i 0) (ps.getD j 0) = f i j
def Goes (f g : Nat → Nat → Int) (ps : List Nat) (x : Nat) : Prop := ∀ k, k < ps.length → g (ps.getD k 0) x = f k ps.length
theorem getD_snoc_lt {ps : List Nat} {x i : Nat} (h : i < ps.length) : (ps ++ [x]).getD i 0 = ps.getD i 0 := by
  rw [List.getD_eq_getElem?_getD, List.getD_eq_getElem?_getD, List.getElem?_append_left h]
theorem getD_snoc_last {ps : List Nat} {x : Nat} : (ps ++ [x]).getD ps.length 0 = x := by
  rw [List.getD_eq_getElem?_getD, List.getElem?_append_right (Nat.le_refl _)]
  simp
theorem getD_lt {n i : Nat} {ps : List Nat} (h : Part n ps) (hi : i < ps.length) : ps.getD i 0 < n := by
  rw [List.getD_eq_getElem?_getD, List.getElem?_eq_getElem hi]
  exact h.lt _ (List.getElem_mem hi)
theorem leadTo_snoc {n x : Nat} {f g : Nat → Nat → Int} {ps : List Nat} (hf : Skew n f) (hg : Skew n g) (hP : Part n ps) (hl : ps.length < n) (hx : x < n) (h : LeadTo f g ps) (hG : Goes f g ps x) : LeadTo f g (ps ++ [x]) := fun i j hi hj => by
  rw [List.length_append, List.length_singleton] at hi hj
  by_cases h1 : i < ps.length
  · rw [getD_snoc_lt h1]
    by_cases h2 : j < ps.length
    · rw [getD_snoc_lt h2]
      exact h i j h1 h2
    · have : j = ps.length := by omega
      subst this
      rw [getD_snoc_last]
      exact hG i h1
  · have : i = ps.length := by omega
    subst this
    rw [getD_snoc_last]
    by_cases h2 : j < ps.length
    · rw [getD_snoc_lt h2, hg x _ hx (getD_lt hP h2), hG j h2, ← hf _ _ hl (by omega)]
    · have : j = ps.length := by omega
      subst this
      rw [getD_snoc_last]
      have a1 := hg x x hx hx
      have a2 := hf ps.length ps.length hl hl
      omega
theorem lead_prefix {n x : Nat} {f g : Nat → Nat → Int} {ps qs : List Nat} (hl : qs.length = n) (hp : ps ++ [x] <+: qs) (h : Lead n f g qs) : Goes f g ps x := fun k hk => by
  obtain ⟨r, rfl⟩ := hp
  have hlen : ps.length < n := by
    rw [← hl, List.length_append, List.length_append, List.length_singleton]
    omega
  have := h k ps.length (by omega) hlen
  have e1 : ((ps ++ [x]) ++ r).getD k 0 = ps.getD k 0 := by
    rw [List.getD_eq_getElem?_getD, List.getElem?_append_left (by simp; omega), ← List.getD_eq_getElem?_getD, getD_snoc_lt hk]
  have e2 : ((ps ++ [x]) ++ r).getD ps.length 0 = x := by
    rw [List.getD_eq_getElem?_getD, List.getElem?_append_left (by simp), ← List.getD_eq_getElem?_getD, getD_snoc_last]
  rw [e1, e2] at this
  exact this
/-- the first of the names behind ps that lead from f to g -/
noncomputable def firstN (n : Nat) (f g : Nat → Nat → Int) (d : Nat) (ps : List Nat) : Option (List Nat) := (comp n d ps).find? fun qs => dec (Lead n f g qs)
theorem firstN_zero {n : Nat} {f g : Nat → Nat → Int} {ps : List Nat} (hl : ps.length = n) (h : LeadTo f g ps) : firstN n f g 0 ps = some ps := by
  have : dec (Lead n f g ps) = true := dec_true fun i j hi hj => h i j (by omega) (by omega)
  show [ps].find? _ = _
  rw [List.find?_cons, this]
theorem firstN_succ {n d : Nat} {f g : Nat → Nat → Int} {ps : List Nat} (hP : Part n ps) (hl : ps.length + (d + 1) = n) : firstN n f g (d + 1) ps = (List.range n).findSome? fun x => if dec (x ∉ ps ∧ Goes f g ps x) = true then firstN n f g d (ps ++ [x]) else none := by
  show ((ext n ps).flatMap (comp n d)).find? _ = _
  rw [List.find?_flatMap]
  unfold ext
  rw [findSome_fm]
  have key : ∀ x ∈ List.range n, (if decide (x ∉ ps) = true then (comp n d (ps ++ [x])).find? (fun qs => dec (Lead n f g qs)) else none) = if dec (x ∉ ps ∧ Goes f g ps x) = true then firstN n f g d (ps ++ [x]) else none := fun x hx => by
    by_cases h1 : x ∉ ps
    · rw [if_pos (decide_eq_true h1)]
      by_cases h2 : Goes f g ps x
      · rw [if_pos (dec_true ⟨h1, h2⟩)]; rfl
      · rw [if_neg (fun z => h2 (of_dec z).2)]
        refine List.find?_eq_none.mpr fun qs hq => ?_
        obtain ⟨q1, q2, q3⟩ := comp_part (hP.snoc (List.mem_range.mp hx) h1) hq
        rw [dec_false fun hL => h2 (lead_prefix (by rw [q2]; simp; omega) q3 hL)]
        exact Bool.false_ne_true
    · rw [if_neg (by simpa using h1), if_neg (fun z => h1 (of_dec z).1)]
  exact findSome_congr key
where
  findSome_congr {α β : Type} {l : List α} {p q : α → Option β} (h : ∀ x ∈ l, p x = q x) : l.findSome? p = l.findSome? q := by
    induction l with
    | nil => rfl
    | cons a r ih =>
      rw [List.findSome?_cons, List.findSome?_cons, h a List.mem_cons_self, ih fun x hx => h x (List.mem_cons_of_mem _ hx)]
theorem findSome_none {α β : Type} {p : α → Option β} : ∀ {l : List α}, (∀ x ∈ l, p x = none) → l.findSome? p = none
  | [], _ => rfl
  | a :: r, h => by
    rw [List.findSome?_cons, h a List.mem_cons_self]
    exact findSome_none fun x hx => h x (List.mem_cons_of_mem _ hx)
/-- the i-th is the first that gives anything -/
theorem findSome_at {β : Type} {p : Nat → Option β} {b : β} : ∀ {n i s : Nat}, i < n → (∀ j, j < i → p (s + j) = none) → p (s + i) = some b → ((List.range' s n).findSome? p) = some b
  | 0, i, s, h, _, _ => absurd h (Nat.not_lt_zero _)
  | n + 1, 0, s, _, _, h => by
    rw [List.range'_succ, List.findSome?_cons, show p s = some b from h]
  | n + 1, i + 1, s, h, h1, h2 => by
    have h0 := h1 0 (by omega)
    rw [List.range'_succ, List.findSome?_cons, show p s = none from h0]
    exact findSome_at (n := n) (i := i) (s := s + 1) (by omega) (fun j hj => by have := h1 (j + 1) (by omega); rwa [show s + 1 + j = s + (j + 1) by omega]) (by rwa [show s + 1 + i = s + (i + 1) by omega])
theorem findSome_range {β : Type} {p : Nat → Option β} {b : β} {n i : Nat} (h : i < n) (h1 : ∀ j, j < i → p j = none) (h2 : p i = some b) : (List.range n).findSome? p = some b := by
  rw [List.range_eq_range']
  exact findSome_at (s := 0) h (fun j hj => by rw [Nat.zero_add]; exact h1 j hj) (by rw [Nat.zero_add]; exact h2)
end AT

/-! ## alike -/
namespace AT
open PySem PySem.Spec PyProof.Rows L2 Evl
def sp_goes_on (K : Frag) : Sp := fun vs H Q _ => ∃ (a b c : Addr) (n : Nat) (f g : Nat → Nat → Int) (ps : List Nat) (x : Nat), vs = [.ref a, .ref b, .ref c, .int (x : Int)] ∧ LLI K H a (Fm n f) ∧ LLI K H b (Fm n g) ∧ LI K H c (nI ps) ∧ Part n ps ∧ ps.length < n ∧ x < n ∧ n ≤ 100 ∧ ∀ H', Ex H H' → Q (.bl (dec (Goes f g ps x))) H'
/-- what comes back: None, or the list that was handed in, or a new one -/
def RNames (c : Addr) (o : Option (List Nat)) : R3 := fun H1 H2 v => match o with
  | none => v = .non
  | some qs => ∃ p, v = .ref p ∧ H2 p = some (.lst ((nI qs).map V.int)) ∧ (p = c ∨ H1 p = none)
def sp_first_names (K : Frag) (d : Nat) : Sp := fun vs H Q _ => ∃ (a b c : Addr) (n : Nat) (f g : Nat → Nat → Int) (ps : List Nat), vs = [.ref a, .ref b, .ref c] ∧ LLI K H a (Fm n f) ∧ LLI K H b (Fm n g) ∧ H c = some (.lst ((nI ps).map V.int)) ∧ Part n ps ∧ LeadTo f g ps ∧ ps.length + d = n ∧ n ≤ 100 ∧ Skew n f ∧ Skew n g ∧ ∀ v H', Ex H H' → RNames c (firstN n f g d ps) H H' v → Q v H'
/-- None, or a new list of the names -/
def RNew (o : Option (List Nat)) : R3 := fun H1 H2 v => match o with
  | none => v = .non
  | some qs => ∃ p, v = .ref p ∧ OLI H1 H2 p (nI qs)
theorem mon_RNew {o : Option (List Nat)} : Mon (RNew o) := by
  cases o with
  | none => exact ⟨fun _ h => h, fun _ h => h⟩
  | some qs => exact ⟨fun e ⟨p, h, q⟩ => ⟨p, h, q.mono e⟩, fun e ⟨p, h, q⟩ => ⟨p, h, q.back e⟩⟩
noncomputable def alikeV (n m : Nat) (f g : Nat → Nat → Int) : Option (List Nat) := if n = m then firstN n f g n [] else none
def sp_alike (K : Frag) : Sp := fun vs H Q _ => ∃ (a b : Addr) (n m : Nat) (f g : Nat → Nat → Int), vs = [.ref a, .ref b] ∧ LLI K H a (Fm n f) ∧ LLI K H b (Fm m g) ∧ FormOf n f ∧ FormOf m g ∧ ∀ v H', Ex H H' → RNew (alikeV n m f g) H H' v → Q v H'
theorem inV_nI (x : Nat) (ps : List Nat) : inV (.int (x : Int)) ((nI ps).map V.int) = decide (x ∈ ps) := by
  unfold inV nI
  induction ps with
  | nil => rfl
  | cons a r ih =>
    rw [List.map_cons, List.map_cons, List.any_cons, ih]
    show ((a : Int) == (x : Int) || decide (x ∈ r)) = decide (x ∈ a :: r)
    by_cases e : a = x
    · subst e; simp
    · have e1 : ((a : Int) == (x : Int)) = false := by simpa using (show ¬ (a : Int) = (x : Int) by omega)
      rw [e1, Bool.false_or]
      simp only [List.mem_cons]
      by_cases h : x ∈ r
      · simp [h]
      · have : ¬ x = a := fun z => e z.symm
        simp [h, this]
theorem flat_ints (xs : List Int) : (xs.map V.int).all flatV = true := by simp [flatV]
section
variable {P : Program} {w : World} {K : Frag} {mg : Str → Option Value} {base : Heap} {k : Nat}
theorem ev_nin {σ : St} {H : Hp} {c : Addr} {x : Nat} {ps : List Nat} {ta tb : TE} (ha : Ev ta σ H (.int (x : Int))) (hb : Ev tb σ H (.ref c)) (hL : LI K H c (nI ps)) : Ev (tOp (rIn K true) ta tb) σ H (.bl (decide (x ∉ ps))) :=
  ev_is (ev_op ha hb (rv_niL hL rfl (flat_ints _))) (by rw [inV_nI]; by_cases h : x ∈ ps <;> simp [h])
/-- xs + [x] -/
theorem el_snoc {σ : St} {H : Hp} {c : Addr} {x : Nat} {ps : List Nat} {ta tb : TE} (ha : Ev ta σ H (.ref c)) (hc : H c = some (.lst ((nI ps).map V.int))) (hb : Ev tb σ H (.int (x : Int))) (hl : ps.length ≤ 1000) : EvL (tOp rCat ta (tLst (tCons tb tNil))) σ H ((nI (ps ++ [x])).map V.int) := fun H1 e Q q =>
  ha H1 e _ fun H2 e2 => (el_lst (ea_cons hb ea_nil) (by show 1 ≤ 100000; decide) : EvL (tLst (tCons tb tNil)) σ H [.int (x : Int)]) H2 (e.trans e2) _ fun r H3 hr e3 hr3 => ⟨c, r, _, _, rfl, rfl, ((e.trans e2).trans e3) _ _ hc, hr3, by
    rw [List.length_map, nI_len]
    exact sz_of (by show ps.length + 1 ≤ 100000; omega), fun p hp => q p _ (fresh_back (e2.trans e3) hp) ((e2.trans e3).trans (Ex.new hp)) (by
      rw [upd_same]
      unfold nI
      rw [List.map_append, List.map_append]
      rfl)⟩
theorem ok_goes_on (T : Txt K mg) : FnOk P w K mg base CX0 (k + 1) T.f_goes_on T.d_goes_on ["form", "other", "names", "name"] (sp_goes_on K) := by
  refine T.F_goes_on.ok sc_goes_on (fun vs H Q E h => ?_) (fun cdv A outer s H vs Q E hr h => ?_)
  · obtain ⟨a, b, c, n, f, g, ps, x, rfl, _⟩ := h
    rfl
  · obtain ⟨a, b, c, n, f, g, ps, x, rfl, hF, hG, hN, hP, hl, hx, hn, q⟩ := h
    refine ⟨_, (pss_cons (ps_set (i := 4) sc_goes_on.nd rfl (.inl rfl) (pe_callB (lenK K) rfl T.b_len PySem.boot_len (pa_cons (pv 2) pa_nil)))
      (pss_cons (ps_for PassesOwn.never rfl (pi_range1 rfl T.b_range (pa_cons (pv 4) pa_nil)) (pg_name (i := 5) sc_goes_on.nd rfl (.inl rfl))
        (pss_one (ps_if (pt_cmpR op_ne (pe_ix (ixL K) (pe_ix (ixL K) (pv 1) (pe_ix (ixL K) (pv 2) (pv 5) (fun _ _ => rfl)) (fun _ _ => rfl)) (pv 3) (fun _ _ => rfl)) (pe_ix (ixL K) (pe_ix (ixL K) (pv 0) (pv 5) (fun _ _ => rfl)) (pv 4) (fun _ _ => rfl)) (nomark _))
        (pss_one (ps_ret pe_bl))
        pss_nil)))
      (pss_one (ps_ret pe_bl)))), ?_⟩
    have hlen := ev_lenLI (K := K) (σ := [some (V.ref a), some (.ref b), some (.ref c), some (.int (x : Int)), none, none]) (ta := tVar 2) (H := H) (ev_var rfl) hN
    rw [nI_len] at hlen
    refine q_asg hlen fun H1 e1 => ?_
    refine q_forR1 (n := (ps.length : Int)) (ea_cons (ev_var rfl) ea_nil) (by omega) (fun i σ' H' => ∃ x5, σ' = [some (.ref a), some (.ref b), some (.ref c), some (.int (x : Int)), some (.int (ps.length : Int)), x5] ∧ Ex H H' ∧ ∀ j, j < i → g (ps.getD j 0) x = f j ps.length)
      (fun H2 e2 => ⟨_, rfl, e1.trans e2, fun j h => absurd h (Nat.not_lt_zero _)⟩) (fun i σ' H' hi hP' => ?_) (fun σ' H' hP' => ?_)
    · obtain ⟨x5, rfl, eH, hj⟩ := hP'
      have hi' : i < ps.length := by omega
      have hpx : (nI ps)[i]? = some ((ps.getD i 0 : Nat) : Int) := nI_get (by rw [List.getD_eq_getElem?_getD, List.getElem?_eq_getElem hi']; rfl)
      refine s_when (et_test (ev_op (ev_fm (n := n) (f := g) (i := ps.getD i 0) (j := x) (ev_var rfl) (ev_item (ev_var rfl) (ev_var rfl) (hN.mono eH) hpx) (ev_var rfl) (hG.mono eH) (getD_lt hP hi') hx) (ev_fm (i := i) (j := ps.length) (ev_var rfl) (ev_var rfl) (ev_var rfl) (hF.mono eH) (by omega) hl) (rv_ne rfl))) (fun hb H2 e2 => ?_) (fun hb H2 e2 => ?_)
      · refine s_ret ev_c fun H3 e3 => ?_
        have := q H3 ((eH.trans e2).trans e3)
        rw [dec_false fun z => by
          have := z i hi'
          rw [this] at hb
          simp at hb] at this
        exact this
      · refine ⟨_, rfl, eH.trans e2, fun j h => ?_⟩
        by_cases e : j = i
        · subst e
          simp only [Bool.not_eq_false', decide_eq_true_eq] at hb
          injection hb
        · exact hj j (by omega)
    · obtain ⟨x5, rfl, eH, hj⟩ := hP'
      refine s_ret ev_c fun H3 e3 => ?_
      have := q H3 (eH.trans e3)
      rw [dec_true (show Goes f g ps x from fun j hj' => hj j (by rw [Int.toNat_natCast]; exact hj'))] at this
      exact this
theorem ok_first_names (T : Txt K mg) (G_goes_on : FnOk P w K mg base CX0 k T.f_goes_on T.d_goes_on ["form", "other", "names", "name"] (sp_goes_on K)) : ∀ d, FnOk P w K mg base CX0 (k + 1 + d) T.f_first_names T.d_first_names ["form", "other", "names"] (sp_first_names K d) := by
  intro d
  induction d with
  | zero =>
    have G_first_names : FnOk P w K mg base CX0 k T.f_first_names T.d_first_names ["form", "other", "names"] (fun _ _ _ _ => False) := ⟨fun _ _ _ _ h => h.elim, fun _ _ _ _ _ _ _ _ _ _ _ _ _ h => h.elim⟩
    refine T.F_first_names.ok sc_first_names (fun vs H Q E h => ?_) (fun cdv A outer s H vs Q E hr h => ?_)
    · obtain ⟨a, b, c, n, f, g, ps, rfl, _⟩ := h
      rfl
    · obtain ⟨a, b, c, n, f, g, ps, rfl, hF, hG, hc, hP, hL, hd, hn, hsf, hsg, q⟩ := h
      refine ⟨_, (pss_cons (ps_if (pt_cmpR op_eq (pe_callB (lenK K) rfl T.b_len PySem.boot_len (pa_cons (pv 2) pa_nil)) (pe_callB (lenK K) rfl T.b_len PySem.boot_len (pa_cons (pv 0) pa_nil)) (nomark _))
        (pss_one (ps_ret (pv 2)))
        pss_nil)
      (pss_cons (ps_for PassesOwn.never rfl (pi_range1 rfl T.b_range (pa_cons (pe_callB (lenK K) rfl T.b_len PySem.boot_len (pa_cons (pv 0) pa_nil)) pa_nil)) (pg_name (i := 3) sc_first_names.nd rfl (.inl rfl))
        (pss_one (ps_if (PW.pt (pw_and (pt_cmpR (ninK K) (pv 3) (pv 2) rfl) (pw_and1 (pt_val (pe_call G_goes_on hr rfl T.m_goes_on T.F_goes_on.kp T.b_goes_on .nil pass0 (pa_cons (pv 0) (pa_cons (pv 1) (pa_cons (pv 2) (pa_cons (pv 3) pa_nil)))))))))
        (pss_cons (ps_set (i := 4) sc_first_names.nd rfl (.inl rfl) (pe_call G_first_names hr rfl T.m_first_names T.F_first_names.kp T.b_first_names .nil pass0 (pa_cons (pv 0) (pa_cons (pv 1) (pa_cons (pe_op op_cat (pv 2) (pe_lst (pa_cons (pv 3) pa_nil))) pa_nil)))))
      (pss_one (ps_if (pt_cmpR op_notN (pv 4) pe_non (nomark _))
        (pss_one (ps_ret (pv 4)))
        pss_nil)))
        pss_nil)))
      (pss_one (ps_ret pe_non)))), ?_⟩
      have hlen := ev_lenLI (K := K) (σ := [some (V.ref a), some (.ref b), some (.ref c), none, none]) (ta := tVar 2) (H := H) (xs := nI ps) (ev_var rfl) (sq_of hc)
      rw [nI_len] at hlen
      refine q_when (b := true) (et_is (et_test (ev_op hlen (ev_lenFm (ev_var rfl) hF) (rv_eq rfl))) (by rw [show ps.length = n by omega]; simp)) (fun _ H1 e1 => s_ret (ev_var rfl) fun H2 e2 => ?_) (fun hb => nomatch hb)
      refine q _ H2 (e1.trans e2) ?_
      rw [firstN_zero (by omega) hL]
      exact ⟨c, rfl, (e1.trans e2) _ _ hc, .inl rfl⟩
  | succ d ih =>
    have G_first_names := ih
    have G_goes_on := G_goes_on.mono (show k ≤ k + 1 + d by omega)
    refine T.F_first_names.ok sc_first_names (fun vs H Q E h => ?_) (fun cdv A outer s H vs Q E hr h => ?_)
    · obtain ⟨a, b, c, n, f, g, ps, rfl, _⟩ := h
      rfl
    · obtain ⟨a, b, c, n, f, g, ps, rfl, hF, hG, hc, hP, hL, hd, hn, hsf, hsg, q⟩ := h
      refine ⟨_, (pss_cons (ps_if (pt_cmpR op_eq (pe_callB (lenK K) rfl T.b_len PySem.boot_len (pa_cons (pv 2) pa_nil)) (pe_callB (lenK K) rfl T.b_len PySem.boot_len (pa_cons (pv 0) pa_nil)) (nomark _))
        (pss_one (ps_ret (pv 2)))
        pss_nil)
      (pss_cons (ps_for PassesOwn.never rfl (pi_range1 rfl T.b_range (pa_cons (pe_callB (lenK K) rfl T.b_len PySem.boot_len (pa_cons (pv 0) pa_nil)) pa_nil)) (pg_name (i := 3) sc_first_names.nd rfl (.inl rfl))
        (pss_one (ps_if (PW.pt (pw_and (pt_cmpR (ninK K) (pv 3) (pv 2) rfl) (pw_and1 (pt_val (pe_call G_goes_on hr rfl T.m_goes_on T.F_goes_on.kp T.b_goes_on .nil pass0 (pa_cons (pv 0) (pa_cons (pv 1) (pa_cons (pv 2) (pa_cons (pv 3) pa_nil)))))))))
        (pss_cons (ps_set (i := 4) sc_first_names.nd rfl (.inl rfl) (pe_call G_first_names hr rfl T.m_first_names T.F_first_names.kp T.b_first_names .nil pass0 (pa_cons (pv 0) (pa_cons (pv 1) (pa_cons (pe_op op_cat (pv 2) (pe_lst (pa_cons (pv 3) pa_nil))) pa_nil)))))
      (pss_one (ps_if (pt_cmpR op_notN (pv 4) pe_non (nomark _))
        (pss_one (ps_ret (pv 4)))
        pss_nil)))
        pss_nil)))
      (pss_one (ps_ret pe_non)))), ?_⟩
      have hlen := ev_lenLI (K := K) (σ := [some (V.ref a), some (.ref b), some (.ref c), none, none]) (ta := tVar 2) (H := H) (xs := nI ps) (ev_var rfl) (sq_of hc)
      rw [nI_len] at hlen
      have hne : ¬ (V.int (ps.length : Int) = V.int (n : Int)) := fun z => by injection z; omega
      refine q_when (b := false) (et_is (et_test (ev_op hlen (ev_lenFm (ev_var rfl) hF) (rv_eq rfl))) (by simp only [decide_eq_false_iff_not]; exact hne)) (fun hb => nomatch hb) (fun _ H1 e1 => ?_)
      refine q_forR1 (n := (n : Int)) (ea_cons (ev_lenFm (ev_var rfl) (hF.mono e1)) ea_nil) (by omega) (fun i σ' H' => ∃ x3 x4, σ' = [some (.ref a), some (.ref b), some (.ref c), x3, x4] ∧ Ex H H' ∧ ∀ j, j < i → (if dec (j ∉ ps ∧ Goes f g ps j) = true then firstN n f g d (ps ++ [j]) else none) = none)
        (fun H2 e2 => ⟨_, _, rfl, e1.trans e2, fun j h => absurd h (Nat.not_lt_zero _)⟩) (fun i σ' H' hi hP' => ?_) (fun σ' H' hP' => ?_)
      · obtain ⟨x3, x4, rfl, eH, hj⟩ := hP'
        have hi' : i < n := by omega
        have hcH := eH _ _ hc
        have hbv : (decide (i ∉ ps) && dec (Goes f g ps i)) = dec (i ∉ ps ∧ Goes f g ps i) := dec_eq (by
          rw [Bool.and_eq_true, decide_eq_true_eq]
          exact ⟨fun z => ⟨z.1, of_dec z.2⟩, fun z => ⟨z.1, dec_true z.2⟩⟩)
        refine s_when (b := dec (i ∉ ps ∧ Goes f g ps i)) (et_is (et_and (et_test (ev_nin (ev_var rfl) (ev_var rfl) (sq_of hcH))) fun _ => et_B (ev_call (z := .bl (dec (Goes f g ps i))) (ea_cons (ev_var rfl) (ea_cons (ev_var rfl) (ea_cons (ev_var rfl) (ea_cons (ev_var rfl) ea_nil)))) fun H2 e2 Q' q' E' => ⟨a, b, c, n, f, g, ps, i, rfl, hF.mono (eH.trans e2), hG.mono (eH.trans e2), sq_of (e2 _ _ hcH), hP, by omega, hi', hn, q'⟩)) hbv) (fun hb H2 e2 => ?_) (fun hb H2 e2 => ?_)
        · obtain ⟨hni, hgo⟩ := of_dec hb
          have e02 := eH.trans e2
          refine qr_asg (R := RNew (firstN n f g d (ps ++ [i]))) (fun H3 e3 Q' q' => ?_) fun v H3 e3 hv => ?_
          · refine ⟨.ref a, rfl, .ref b, rfl, ?_⟩
            refine el_snoc (σ := [some (V.ref a), some (.ref b), some (.ref c), some (.int (i : Int)), x4]) (ta := tVar 2) (tb := tVar 3) (H := H2) (x := i) (ev_var rfl) (e2 _ _ hcH) (ev_var rfl) (by omega) H3 e3 (fun v H4 => sp_first_names K d ([.ref a, .ref b, v] ++ []) H4 Q' E0) fun t H4 ht e4 ht4 => ?_
            refine ⟨a, b, t, n, f, g, ps ++ [i], rfl, hF.mono ((e02.trans e3).trans e4), hG.mono ((e02.trans e3).trans e4), ht4, hP.snoc hi' hni, leadTo_snoc hsf hsg hP (by omega) hi' hL hgo, by rw [List.length_append, List.length_singleton]; omega, hn, hsf, hsg, fun v H5 e5 hv => q' v H5 (e4.trans e5) ?_⟩
            cases hfn : firstN n f g d (ps ++ [i]) with
            | none => rw [hfn] at hv; exact hv
            | some qs =>
              rw [hfn] at hv
              obtain ⟨p, h1, h2, h3⟩ := hv
              refine ⟨p, h1, ?_, h2⟩
              rcases h3 with rfl | h3
              · exact ht
              · exact fresh_back e4 h3
          · cases hfn : firstN n f g d (ps ++ [i]) with
            | none =>
              rw [hfn] at hv
              have : v = .non := hv
              subst this
              refine s_when (b := false) (et_is (et_test (ev_op (ev_var rfl) ev_c (rv_val (z := .bl (!decide (V.non = .non))) fun H1 _ Q' q' => ⟨rfl, q'⟩))) (by simp)) (fun hb => nomatch hb) (fun _ H4 e4 => ⟨_, _, rfl, (e02.trans e3).trans e4, fun j hji => ?_⟩)
              by_cases e : j = i
              · subst e
                rw [if_pos hb, hfn]
              · exact hj j (by omega)
            | some qs =>
              rw [hfn] at hv
              obtain ⟨p, rfl, h1, h2⟩ := hv
              refine s_when (b := true) (et_is (et_test (ev_op (ev_var rfl) ev_c (rv_val (z := .bl (!decide (V.ref p = .non))) fun H1 _ Q' q' => ⟨rfl, q'⟩))) (by simp)) (fun _ H4 e4 => s_ret (ev_var rfl) fun H5 e5 => ?_) (fun hb => nomatch hb)
              refine q _ H5 (((e02.trans e3).trans e4).trans e5) ?_
              rw [firstN_succ hP (by omega), findSome_range hi' hj (by rw [if_pos hb, hfn])]
              exact ⟨p, rfl, (e4.trans e5) _ _ h2, .inr (fresh_back e02 h1)⟩
        · refine ⟨_, _, rfl, eH.trans e2, fun j hji => ?_⟩
          by_cases e : j = i
          · subst e
            rw [if_neg (by rw [hb]; exact Bool.false_ne_true)]
          · exact hj j (by omega)
      · obtain ⟨x3, x4, rfl, eH, hj⟩ := hP'
        refine s_ret ev_c fun H3 e3 => q _ H3 (eH.trans e3) ?_
        rw [firstN_succ hP (by omega), findSome_none fun x hx => hj x (by rw [Int.toNat_natCast]; exact List.mem_range.mp hx)]
        rfl
theorem ok_alike (T : Txt K mg) (G_must_form : FnOk P w K mg base (L2.CX P w) k T.f_must_form T.d_must_form ["form"] (sp_must_form K T.c_NoForm)) (G_first_names : FnOk P w K mg base CX0 k T.f_first_names T.d_first_names ["form", "other", "names"] (fun vs H Q E => ∃ d, d ≤ 6 ∧ sp_first_names K d vs H Q E)) :
    FnOk P w K mg base (L2.CX P w) (k + 1) T.f_alike T.d_alike ["form", "other"] (sp_alike K) := by
  refine T.F_alike.okX sc_alike (fun vs H Q E h => ?_) (fun cdv A outer s H vs Q E hr h => ?_)
  · obtain ⟨a, b, n, m, f, g, rfl, _⟩ := h
    rfl
  · obtain ⟨a, b, n, m, f, g, rfl, hF, hG, hf, hg, q⟩ := h
    have hn := hf.2.1
    have hm := hg.2.1
    refine ⟨_, (pss_cons (ps_expr (pe_call G_must_form hr rfl T.m_must_form T.F_must_form.kp T.b_must_form .nil (passes_call (takes_of rfl rfl rfl rfl) (fun _ _ _ _ h => h)) (pa_cons (pv 0) pa_nil)))
      (pss_cons (ps_expr (pe_call G_must_form hr rfl T.m_must_form T.F_must_form.kp T.b_must_form .nil (passes_call (takes_of rfl rfl rfl rfl) (fun _ _ _ _ h => h)) (pa_cons (pv 1) pa_nil)))
      (pss_cons (ps_if (pt_cmpR op_ne (pe_callB (lenK K) rfl T.b_len PySem.boot_len (pa_cons (pv 0) pa_nil)) (pe_callB (lenK K) rfl T.b_len PySem.boot_len (pa_cons (pv 1) pa_nil)) (nomark _))
        (pss_one (ps_ret pe_non))
        pss_nil)
      (pss_one (ps_ret (pe_call G_first_names hr rfl T.m_first_names T.F_first_names.kp T.b_first_names .nil pass0 (pa_cons (pv 0) (pa_cons (pv 1) (pa_cons (pe_lst pa_nil) pa_nil))))))))), ?_⟩
    refine ⟨.ref a, rfl, a, _, rfl, hF, small_fm (by omega), fun H1 e1 => ⟨fun _ => ?_, fun z => absurd (fmI hf) z⟩⟩
    refine ⟨.ref b, rfl, b, _, rfl, hG.mono e1, small_fm (by omega), fun H2 e2 => ⟨fun _ => ?_, fun z => absurd (fmI hg) z⟩⟩
    dsimp only
    have e12 := e1.trans e2
    refine q_when (et_test (ev_op (ev_lenFm (ev_var rfl) (hF.mono e12)) (ev_lenFm (ev_var rfl) (hG.mono e12)) (rv_ne rfl))) (fun hb H3 e3 => s_ret ev_c fun H4 e4 => ?_) (fun hb H3 e3 => ?_)
    · refine q _ H4 ((e12.trans e3).trans e4) ?_
      have : ¬ n = m := fun z => by subst z; simp at hb
      unfold alikeV
      rw [if_neg this]
      rfl
    · have hnm : n = m := by
        simp only [Bool.not_eq_false', decide_eq_true_eq] at hb
        injection hb with hb
        omega
      subst hnm
      refine ⟨.ref a, rfl, .ref b, rfl, by show 0 ≤ sizeLine; decide, fun t ht => ⟨n, hn, ?_⟩⟩
      have e13 := (e12.trans e3).trans (Ex.new (o := .lst []) ht)
      refine ⟨a, b, t, n, f, g, [], rfl, hF.mono e13, hG.mono e13, upd_same, part_nil, fun i j h => absurd h (Nat.not_lt_zero _), Nat.zero_add n, by omega, hf.skew, hg.skew, fun v H4 e4 hv => q v H4 (e13.trans e4) ?_⟩
      unfold alikeV
      rw [if_pos rfl]
      cases hfn : firstN n f g n [] with
      | none => rw [hfn] at hv; exact hv
      | some qs =>
        rw [hfn] at hv
        obtain ⟨p, h1, h2, h3⟩ := hv
        refine ⟨p, h1, ?_, h2⟩
        rcases h3 with rfl | h3
        · exact fresh_back (e12.trans e3) ht
        · exact fresh_back e13 h3
/-- all depths at once -/
theorem first_any (T : Txt K mg) (G_goes_on : FnOk P w K mg base CX0 k T.f_goes_on T.d_goes_on ["form", "other", "names", "name"] (sp_goes_on K)) : FnOk P w K mg base CX0 (k + 7) T.f_first_names T.d_first_names ["form", "other", "names"] (fun vs H Q E => ∃ d, d ≤ 6 ∧ sp_first_names K d vs H Q E) :=
  ⟨fun vs H Q E ⟨d, hd, h⟩ => (ok_first_names T G_goes_on d).len vs H Q E h, fun A outer s H args us vs Q E hr he hb hv ⟨d, hd, h⟩ => ((ok_first_names T G_goes_on d).mono (show k + 1 + d ≤ k + 7 by omega)).run A outer s H args us vs Q E hr he hb hv h⟩
end
end AT

/-! ## all names, by the law -/
namespace AT
open PySem PySem.Spec PyProof.Rows L2 Evl
/-- a tracked list of tracked lists of ints -/
def TL (H : Hp) (a : Addr) (M : List (List Int)) : Prop := ∃ as : List Addr, H a = some (.lst (as.map V.ref)) ∧ Paired (fun x r => H x = some (.lst (r.map V.int))) as M
theorem TL.mono {H H' : Hp} {a : Addr} {M : List (List Int)} (e : Ex H H') (h : TL H a M) : TL H' a M := by
  obtain ⟨as, h1, h2⟩ := h
  exact ⟨as, e _ _ h1, paired_mono h2 fun _ _ q => e _ _ q⟩
theorem TL.lli {K : Frag} {H : Hp} {a : Addr} {M : List (List Int)} (h : TL H a M) : LLI K H a M := by
  obtain ⟨as, h1, h2⟩ := h
  exact ⟨as, sq_of h1, paired_mono h2 fun _ _ q => sq_of q⟩
theorem OLLI.tl {H0 H : Hp} {a : Addr} {M : List (List Int)} (h : OLLI H0 H a M) : TL H a M := by
  obtain ⟨as, _, h1, _, h2⟩ := h
  exact ⟨as, h1, paired_mono h2 fun _ _ q => q.2⟩
theorem ext_len (n : Nat) (ps : List Nat) : (ext n ps).length ≤ n := by
  unfold ext
  rw [List.length_map]
  exact filt_len _ n
theorem flat_len {α β : Type} {g : α → List β} {c : Nat} : ∀ l : List α, (∀ x, x ∈ l → (g x).length ≤ c) → (l.flatMap g).length ≤ l.length * c
  | [], _ => by simp
  | a :: r, h => by
    have h1 := h a List.mem_cons_self
    have h2 := flat_len r fun x hx => h x (List.mem_cons_of_mem _ hx)
    rw [List.flatMap_cons, List.length_append, List.length_cons, Nat.add_mul]
    omega
theorem allAt_len {n : Nat} (h : n ≤ 6) : ∀ t, t ≤ 6 → (allAt n t).length ≤ 6 ^ t
  | 0, _ => by simp [allAt]
  | t + 1, ht => by
    have h1 := flat_len (g := ext n) (c := 6) (allAt n t) fun x _ => Nat.le_trans (ext_len n x) h
    have h2 := allAt_len h t (by omega)
    show ((allAt n t).flatMap (ext n)).length ≤ 6 ^ (t + 1)
    rw [Nat.pow_succ]
    exact Nat.le_trans h1 (Nat.mul_le_mul_right 6 h2)
theorem pow6 {t : Nat} (h : t ≤ 6) : 6 ^ t ≤ 46656 := Nat.le_trans (Nat.pow_le_pow_right (by decide) h) (by decide)
theorem allAt_small {n t : Nat} (h : n ≤ 6) (ht : t ≤ 6) : (allAt n t).length ≤ 46656 := Nat.le_trans (allAt_len h t ht) (pow6 ht)
theorem mem_allAt {n t : Nat} {qs : List Nat} (h : qs ∈ allAt n t) : Part n qs ∧ qs.length = t := by
  rw [allAt_comp] at h
  obtain ⟨h1, h2, _⟩ := comp_part part_nil h
  exact ⟨h1, by rw [h2]; simp⟩
theorem Part.names {n : Nat} {qs : List Nat} (h : Part n qs) (hl : qs.length = n) : Names n qs := perm_of_sub h.nd (fun x hx => List.mem_range.mpr (h.lt x hx)) (by rw [List.length_range]; omega)
theorem names_allAt {n : Nat} {qs : List Nat} (h : qs ∈ allAt n n) : Names n qs := by
  obtain ⟨h1, h2⟩ := mem_allAt h
  exact h1.names h2
/-- renamed so it is the other one just where the names lead there -/
theorem lead_ren {n : Nat} {f g : Nat → Nat → Int} {qs : List Nat} (h : Names n qs) : Fm n (renF f qs) = Fm n g ↔ Lead n f g qs := by
  constructor
  · intro e i j hi hj
    obtain ⟨x, hx, hxn⟩ := h.lt hi
    obtain ⟨y, hy, hyn⟩ := h.lt hj
    have := (fm_inj e).2 x y hxn hyn
    unfold renF at this
    rw [h.ix_at hx, h.ix_at hy] at this
    rw [List.getD_eq_getElem?_getD, List.getD_eq_getElem?_getD, hx, hy]
    exact this.symm
  · intro hL
    refine fm_ext fun x y hx hy => ?_
    have := hL _ _ (h.ix hx) (h.ix hy)
    rw [List.getD_eq_getElem?_getD, List.getD_eq_getElem?_getD, h.at_ix hx, h.at_ix hy] at this
    exact this.symm
def sp__law_all_names : Sp := fun vs H Q _ => ∃ n : Nat, vs = [.int (n : Int)] ∧ n ≤ 6 ∧ ∀ H' p, Ex H H' → H p = none → TL H' p ((allAt n n).map nI) → Q (.ref p) H'
section
variable {P : Program} {w : World} {K : Frag} {mg : Str → Option Value} {base : Heap} {k : Nat}
/-- [names + [x] for x in range(n) if x not in names] -/
theorem er_ext {σ : St} {H : Hp} {c : Addr} {n : Nat} {ps : List Nat} {ta : TA} {tn : TE} {j : Nat} {ws : List Nat} (ha : EvA ta σ H [.int (n : Int)]) (hn : n ≤ 100) (hw : ∀ x, wipe ((wipe σ ws).set j (some x)) ws = wipe σ ws)
    (hc : H c = some (.lst ((nI ps).map V.int))) (hl : ps.length ≤ 1000) (hv : ∀ (i : Nat) H1, Ev tn ((wipe σ ws).set j (some (.int (i : Int)))) H1 (.ref c)) (hj : ∀ i : Nat, ((wipe σ ws).set j (some (.int (i : Int))))[j]? = some (some (.int (i : Int)))) :
    Er (tLc (iRng1 ta) (gName j) (tTest (tOp (rIn K true) (tVar j) tn)) (tOp rCat tn (tLst (tCons (tVar j) tNil))) ws) σ H (fun H1 H2 v => ∃ p, v = .ref p ∧ H1 p = none ∧ TL H2 p ((ext n ps).map nI)) := fun H1 e Q q => by
  have h := er_lcR (te := tOp rCat tn (tLst (tCons (tVar j) tNil))) (t := tTest (tOp (rIn K true) (tVar j) tn)) (fun i => decide (i ∉ ps)) (fun i => RL (nI (ps ++ [i]))) (fun i => mon'_RL) ha (by omega) hw
    (fun i H2 e2 _ => et_test (ev_nin (ev_var (hj i)) (hv i H2) (sq_of (e2 _ _ hc))))
    (fun i H2 e2 _ _ => er_of_evl (el_snoc (hv i H2) (e2 _ _ hc) (ev_var (hj i)) hl))
  refine h H1 e Q fun v H2 e2 ⟨p, vs, hv, hp, hp2, hP⟩ => q v H2 e2 ⟨p, hv, hp, ?_⟩
  rw [Int.toNat_natCast] at hP
  have key : ∀ {vs : List V} {idx : List Nat}, Paired (fun v i => RL (nI (ps ++ [i])) H1 H2 v) vs idx → ∃ as : List Addr, vs = as.map V.ref ∧ Paired (fun x r => H2 x = some (.lst (r.map V.int))) as ((idx.map fun x => ps ++ [x]).map nI) := fun {vs idx} hP => by
    induction hP with
    | nil => exact ⟨[], rfl, .nil⟩
    | cons r t ih =>
      obtain ⟨x, hx, h1, h2⟩ := r
      obtain ⟨as, ha, hb⟩ := ih
      subst hx; subst ha
      exact ⟨x :: as, rfl, .cons h2 hb⟩
  obtain ⟨as, ha, hb⟩ := key hP
  subst ha
  exact ⟨as, hp2, hb⟩
end
end AT

/-! ## names in order -/
namespace AT
open PySem
theorem ltI_self : ∀ xs : List Int, ltI xs xs = false
  | [] => rfl
  | x :: xs => by
    show PySem.W.listLt (x :: xs) (x :: xs) = false
    rw [PySem.W.listLt, if_pos rfl]
    exact ltI_self xs
theorem ltI_pre (ps a b : List Int) : ltI (ps ++ a) (ps ++ b) = ltI a b := by
  induction ps with
  | nil => rfl
  | cons p ps ih =>
    show PySem.W.listLt (p :: (ps ++ a)) (p :: (ps ++ b)) = _
    rw [PySem.W.listLt, if_pos rfl]
    exact ih
theorem ltI_asym : ∀ {a b : List Int}, ltI a b = true → ltI b a = false
  | [], [], h => by cases h
  | [], _ :: _, _ => rfl
  | _ :: _, [], h => by cases h
  | x :: xs, y :: ys, h => by
    have h : PySem.W.listLt (x :: xs) (y :: ys) = true := h
    show PySem.W.listLt (y :: ys) (x :: xs) = false
    rw [PySem.W.listLt] at h ⊢
    by_cases e : x = y
    · rw [if_pos e] at h
      rw [if_pos e.symm]
      exact ltI_asym h
    · rw [if_neg e] at h
      rw [if_neg (fun z => e z.symm)]
      have h : decide (x < y) = true := h
      show decide (y < x) = false
      rw [decide_eq_true_eq] at h
      rw [decide_eq_false_iff_not]
      omega
/-- those that go on from ps stand in order -/
theorem comp_sorted {n : Nat} : ∀ (d : Nat) {ps : List Nat}, Part n ps → (comp n d ps).Pairwise fun a b => ltI (nI a) (nI b) = true
  | 0, ps, _ => List.pairwise_singleton _ _
  | d + 1, ps, hp => by
    show ((ext n ps).flatMap (comp n d)).Pairwise _
    rw [List.pairwise_flatMap]
    refine ⟨fun qs hqs => ?_, ?_⟩
    · obtain ⟨x, hx, hn, rfl⟩ := mem_ext.mp hqs
      exact comp_sorted d (hp.snoc hx hn)
    · unfold ext
      rw [List.pairwise_map]
      have h1 : ((List.range n).filter fun x => decide (x ∉ ps)).Pairwise (· < ·) := List.Pairwise.filter _ List.pairwise_lt_range
      refine List.Pairwise.imp_of_mem (fun {x y} hx hy hlt => ?_) h1
      intro a ha b hb
      rw [List.mem_filter, List.mem_range, decide_eq_true_eq] at hx hy
      obtain ⟨s, rfl⟩ := (comp_part (hp.snoc hx.1 hx.2) ha).2.2
      obtain ⟨t, rfl⟩ := (comp_part (hp.snoc hy.1 hy.2) hb).2.2
      have e1 : nI (ps ++ [x] ++ s) = nI ps ++ ((x : Int) :: nI s) := by unfold nI; simp
      have e2 : nI (ps ++ [y] ++ t) = nI ps ++ ((y : Int) :: nI t) := by unfold nI; simp
      rw [e1, e2, ltI_pre]
      show PySem.W.listLt ((x : Int) :: nI s) ((y : Int) :: nI t) = true
      rw [PySem.W.listLt, if_neg (by omega)]
      show decide ((x : Int) < (y : Int)) = true
      rw [decide_eq_true_eq]
      omega
theorem find_sorted {α : Type} {R : α → α → Prop} {p : α → Bool} : ∀ {l : List α} {x y : α}, l.Pairwise R → l.find? p = some x → y ∈ l → p y = true → x = y ∨ R x y
  | [], _, _, _, h, _, _ => by cases h
  | a :: l, x, y, hR, h, hy, hp => by
    rw [List.pairwise_cons] at hR
    rw [List.find?_cons] at h
    by_cases ha : p a = true
    · rw [ha] at h
      have h : some a = some x := h
      cases h
      rcases List.mem_cons.mp hy with rfl | hy
      · exact .inl rfl
      · exact .inr (hR.1 y hy)
    · have ha' : p a = false := by simpa using ha
      rw [ha'] at h
      rcases List.mem_cons.mp hy with rfl | hy
      · exact absurd hp ha
      · exact find_sorted hR.2 h hy hp
theorem names_part {n : Nat} {ps : List Nat} (h : Names n ps) : Part n ps := ⟨h.nd, fun x hx => h.mem.mp hx⟩
theorem mem_comp_pre {n : Nat} : ∀ (d : Nat) {ps qs : List Nat}, Part n qs → ps <+: qs → qs.length = ps.length + d → qs ∈ comp n d ps
  | 0, ps, qs, _, hp, hl => by
    have e : ps = qs := hp.eq_of_length (by omega)
    subst e
    exact List.mem_singleton.mpr rfl
  | d + 1, ps, qs, hq, ⟨t, ht⟩, hl => by
    show qs ∈ (ext n ps).flatMap (comp n d)
    cases t with
    | nil =>
      rw [List.append_nil] at ht
      rw [ht] at hl
      omega
    | cons x t =>
      have hx : x ∈ qs := by rw [← ht]; simp
      have hnd : (ps ++ x :: t).Nodup := by rw [ht]; exact hq.nd
      have hxp : x ∉ ps := fun z => by
        rw [List.nodup_append] at hnd
        exact hnd.2.2 x z x List.mem_cons_self rfl
      exact List.mem_flatMap.mpr ⟨ps ++ [x], mem_ext.mpr ⟨x, hq.lt x hx, hxp, rfl⟩, mem_comp_pre d hq ⟨t, by rw [← ht]; simp⟩ (by simp; omega)⟩
theorem mem_comp {n : Nat} {ps : List Nat} (h : Names n ps) : ps ∈ comp n n [] := mem_comp_pre n (names_part h) ⟨ps, rfl⟩ (by rw [h.len]; simp)
theorem names_getD {n i : Nat} {ps : List Nat} (h : Names n ps) (hi : i < n) : ps.getD i 0 < n ∧ ps.idxOf (ps.getD i 0) = i := by
  obtain ⟨x, h1, h2⟩ := h.lt hi
  have e : ps.getD i 0 = x := by rw [List.getD_eq_getElem?_getD, h1]; rfl
  rw [e]
  exact ⟨h2, h.ix_at h1⟩
theorem lead_self {n : Nat} {f : Nat → Nat → Int} {ps : List Nat} (h : Names n ps) : Lead n f (renF f ps) ps := fun i j hi hj => by
  unfold renF
  rw [(names_getD h hi).2, (names_getD h hj).2]
/-- the names the other way -/
def invN (n : Nat) (ps : List Nat) : List Nat := (List.range n).map fun i => ps.idxOf i
theorem idx_inj {n i j : Nat} {ps : List Nat} (h : Names n ps) (hi : i < n) (hj : j < n) (e : ps.idxOf i = ps.idxOf j) : i = j := by
  have h1 := h.at_ix hi
  have h2 := h.at_ix hj
  rw [e, h2] at h1
  injection h1 with h1
  exact h1.symm
theorem invN_names {n : Nat} {ps : List Nat} (h : Names n ps) : Names n (invN n ps) := by
  refine perm_of_sub ?_ (fun x hx => ?_) (by unfold invN; simp)
  · unfold invN
    rw [List.Nodup, List.pairwise_map]
    refine List.Pairwise.imp_of_mem (fun {i j} hi hj hne e => hne (idx_inj h (List.mem_range.mp hi) (List.mem_range.mp hj) e)) List.nodup_range
  · obtain ⟨i, hi, rfl⟩ := List.mem_map.mp hx
    exact List.mem_range.mpr (h.ix (List.mem_range.mp hi))
theorem invN_getD {n i : Nat} {ps : List Nat} (hi : i < n) : (invN n ps).getD i 0 = ps.idxOf i := by
  unfold invN
  rw [List.getD_eq_getElem?_getD, List.getElem?_map, List.getElem?_range hi]
  rfl
theorem lead_inv {n : Nat} {f : Nat → Nat → Int} {ps : List Nat} : Lead n (renF f ps) f (invN n ps) := fun i j hi hj => by
  rw [invN_getD hi, invN_getD hj]
  rfl
/-- alike finds the first names that lead -/
theorem alikeV_some {n : Nat} {f g : Nat → Nat → Int} {ps : List Nat} (h : Names n ps) (hl : Lead n f g ps) : ∃ qs, alikeV n n f g = some qs ∧ Names n qs ∧ Lead n f g qs ∧ ltI (nI ps) (nI qs) = false := by
  unfold alikeV firstN
  rw [if_pos rfl]
  cases e : (comp n n []).find? fun qs => dec (Lead n f g qs) with
  | none =>
    have := List.find?_eq_none.mp e ps (mem_comp h)
    exact absurd (dec_true hl) this
  | some qs =>
    have h1 := List.mem_of_find?_eq_some e
    have h2 := List.find?_some e
    have hc := comp_part part_nil h1
    refine ⟨qs, rfl, Part.names hc.1 (by have := hc.2.1; simpa using this), of_dec h2, ?_⟩
    rcases find_sorted (comp_sorted n part_nil) e (mem_comp h) (dec_true hl) with rfl | h
    · exact ltI_self _
    · exact ltI_asym h
/-! ### turning and renaming -/
theorem renF_ok {n : Nat} {f : Nat → Nat → Int} {ps : List Nat} (hf : FormOf n f) (h : Names n ps) : FormOf n (renF f ps) := ⟨hf.1, hf.2.1, fun i j hi hj => hf.2.2 _ _ (h.ix hi) (h.ix hj)⟩
theorem turn_ren {n b : Nat} {f : Nat → Nat → Int} {ps : List Nat} (h : Names n ps) (hb : b < n) : Fm n (turnF (renF f ps) (ps.getD b 0)) = Fm n (renF (turnF f b) ps) := fm_ext fun i j hi hj => by
  have hq := names_getD h hb
  have e : ∀ {x}, x < n → (x = ps.getD b 0 ↔ ps.idxOf x = b) := fun {x} hx => ⟨fun z => by rw [z]; exact hq.2, fun z => idx_inj h hx hq.1 (by rw [z, hq.2])⟩
  have l : turnF (renF f ps) (ps.getD b 0) i j = if i = ps.getD b 0 ∨ j = ps.getD b 0 then 0 - f (ps.idxOf i) (ps.idxOf j) else f (ps.idxOf i) (ps.idxOf j) + thr (f (ps.idxOf i) (ps.idxOf (ps.getD b 0))) (f (ps.idxOf (ps.getD b 0)) (ps.idxOf j)) := rfl
  have r : renF (turnF f b) ps i j = if ps.idxOf i = b ∨ ps.idxOf j = b then 0 - f (ps.idxOf i) (ps.idxOf j) else f (ps.idxOf i) (ps.idxOf j) + thr (f (ps.idxOf i) b) (f b (ps.idxOf j)) := rfl
  rw [l, r, hq.2]
  by_cases q : i = ps.getD b 0 ∨ j = ps.getD b 0
  · have q2 : ps.idxOf i = b ∨ ps.idxOf j = b := q.elim (fun z => .inl ((e hi).mp z)) fun z => .inr ((e hj).mp z)
    rw [if_pos q, if_pos q2]
  · have q2 : ¬ (ps.idxOf i = b ∨ ps.idxOf j = b) := fun z => q (z.elim (fun z => .inl ((e hi).mpr z)) fun z => .inr ((e hj).mpr z))
    rw [if_neg q, if_neg q2]
theorem thr_zero_r (a : Int) : thr a 0 = 0 := by
  unfold thr
  rw [if_neg (by omega), if_neg (by omega)]
theorem thr_zero_l (a : Int) : thr 0 a = 0 := by
  unfold thr
  rw [if_neg (by omega), if_neg (by omega)]
theorem turn_col {b o i : Nat} {f : Nat → Nat → Int} (hne : b ≠ o) (h1 : f b o = 0) (h2 : f o b = 0) : turnF f b i o = f i o ∧ turnF f b o i = f o i := by
  unfold turnF
  constructor
  · by_cases q : i = b
    · rw [if_pos (.inl q), q, h1]; rfl
    · rw [if_neg (by rintro (z | z); exact q z; exact hne z.symm), h1, thr_zero_r]; omega
  · by_cases q : i = b
    · rw [if_pos (.inr q), q, h2]; rfl
    · rw [if_neg (by rintro (z | z); exact hne z.symm; exact q z), h2, thr_zero_l]; omega
theorem turn_comm {n b o : Nat} {f : Nat → Nat → Int} (h1 : f b o = 0) (h2 : f o b = 0) : Fm n (turnF (turnF f b) o) = Fm n (turnF (turnF f o) b) := by
  by_cases hne : b = o
  · rw [hne]
  · refine fm_ext fun i j _ _ => ?_
    have c1 := fun i => turn_col (i := i) hne h1 h2
    have c2 := fun i => turn_col (i := i) (Ne.symm hne) h2 h1
    have l : turnF (turnF f b) o i j = if i = o ∨ j = o then 0 - turnF f b i j else turnF f b i j + thr (turnF f b i o) (turnF f b o j) := rfl
    have r : turnF (turnF f o) b i j = if i = b ∨ j = b then 0 - turnF f o i j else turnF f o i j + thr (turnF f o i b) (turnF f o b j) := rfl
    rw [l, r, (c1 i).1, (c1 j).2, (c2 i).1, (c2 j).2]
    by_cases p : i = o ∨ j = o
    · rw [if_pos p]
      by_cases q : i = b ∨ j = b
      · rw [if_pos q]
        unfold turnF
        rw [if_pos q, if_pos p]
      · rw [if_neg q]
        unfold turnF
        rw [if_neg q, if_pos p]
        have : thr (f i b) (f b j) = 0 := by
          rcases p with rfl | rfl
          · rw [h2, thr_zero_l]
          · rw [h1, thr_zero_r]
        omega
    · rw [if_neg p]
      by_cases q : i = b ∨ j = b
      · rw [if_pos q]
        unfold turnF
        rw [if_pos q, if_neg p]
        have : thr (f i o) (f o j) = 0 := by
          rcases q with rfl | rfl
          · rw [h1, thr_zero_l]
          · rw [h2, thr_zero_r]
        omega
      · rw [if_neg q]
        unfold turnF
        rw [if_neg q, if_neg p]
        omega
theorem nat9 {a b : Int} (h1 : a.natAbs ≤ 9) (h2 : b.natAbs ≤ 9) : (a * b).natAbs ≤ 81 := by
  rw [Int.natAbs_mul]
  exact Nat.mul_le_mul h1 h2
theorem thr9 {a b : Int} (h1 : a.natAbs ≤ 9) (h2 : b.natAbs ≤ 9) : (thr a b).natAbs ≤ 81 := by
  have := nat9 h1 h2
  unfold thr
  split
  · exact this
  · split
    · omega
    · omega
theorem turn9 {n k : Nat} {f : Nat → Nat → Int} (hf : FormOf n f) (hk : k < n) (h9 : ∀ i j, i < n → j < n → f i j ≤ 9) : FormOf n (turnF f k) := ⟨hf.1, hf.2.1, fun i j hi hj => ⟨turnF_skew hf.skew hk i j hi hj, by
  have hb : ∀ i j, i < n → j < n → (f i j).natAbs ≤ 9 := fun i j hi hj => by
    have h1 := h9 i j hi hj
    have h2 := h9 j i hj hi
    have h3 := (hf.2.2 i j hi hj).1
    omega
  have h1 := hb i j hi hj
  have h2 := thr9 (hb i k hi hk) (hb k j hk hj)
  unfold turnF
  split <;> omega⟩⟩
end AT

/-! ## renamed, alike: their promises at forms -/
namespace AT
open PySem PySem.Spec PyProof.Rows L2 Evl
section
variable {P : Program} {w : World} {K : Frag} {H : Hp} {σ : St} {ta tb t1 t2 : TE} {C1 C2 : Addr} {R : R3} {E : XK}
theorem ev_opR1 {r : R2} {y z : V} (h1 : Er ta σ H R) (h2 : Ev tb σ H y) (hr : ∀ v H1 H2, Ex H H1 → Ex H1 H2 → R H1 H2 v → RV r v y H2 z) : Ev (tOp r ta tb) σ H z := fun H1 e Q q =>
  h1 H1 e _ fun v H2 e2 hv => h2 H2 (e.trans e2) _ fun H3 e3 => hr v H1 H2 e e2 hv H3 e3 Q fun H4 e4 => q H4 ((e2.trans e3).trans e4)
theorem ev_opR2 {r : R2} {x z : V} (h1 : Ev ta σ H x) (h2 : Er tb σ H R) (hr : ∀ v H1 H2, Ex H H1 → Ex H1 H2 → R H1 H2 v → RV r x v H2 z) : Ev (tOp r ta tb) σ H z := fun H1 e Q q =>
  h1 H1 e _ fun H2 e2 => h2 H2 (e.trans e2) _ fun v H3 e3 hv => hr v H2 H3 (e.trans e2) e3 hv H3 (Ex.refl _) Q fun H4 e4 => q H4 ((e2.trans e3).trans e4)
theorem renF_ext {n : Nat} {f g : Nat → Nat → Int} {ps : List Nat} (h : Names n ps) (hf : ∀ i j, i < n → j < n → f i j = g i j) : Fm n (renF f ps) = Fm n (renF g ps) := fm_ext fun i j hi hj => hf _ _ (h.ix hi) (h.ix hj)
theorem spr_renamed {a b : Addr} {n : Nat} {f : Nat → Nat → Int} {ps : List Nat} (hf : FormOf n f) (hps : Names n ps) (hM : LLI K H a (Fm n f)) (hN : LI K H b (nI ps)) : SpR (sp_renamed K C1 C2) [.ref a, .ref b] H (RM (Fm n (renF f ps))) := fun H1 e1 Q q E => by
  refine ⟨a, b, _, _, rfl, hM.mono e1, small_fm (by have := hf.2.1; omega), hN.mono e1, by rw [nI_len, hps.len]; have := hf.2.1; omega, fun hF => absurd (fmI hf) hF, fun n' f' e hf' => ?_⟩
  obtain ⟨rfl, ee⟩ := fm_inj e
  refine ⟨fun z => absurd (isNames_iff.mpr ⟨ps, hps, rfl⟩) z, fun qs hqs eqs H' p e hO => q _ H' e ⟨p, rfl, ?_⟩⟩
  have : ps = qs := List.map_inj_right (f := fun x : Nat => (x : Int)) (fun a b h => by omega) |>.mp eqs
  subst this
  rw [renF_ext hps ee]
  exact hO
theorem er_renamedR2 {n : Nat} {f : Nat → Nat → Int} {ps : List Nat} (hf : FormOf n f) (hps : Names n ps) (h1 : Er t1 σ H (RM (Fm n f))) (h2 : Er t2 σ H (RL (nI ps))) : Er (tCall (sp_renamed K C1 C2) [] E (tCons t1 (tCons t2 tNil))) σ H (RM (Fm n (renF f ps))) :=
  er_callR2 mon_RM h1 h2 fun v1 v2 G1 G2 G3 g1 g2 g3 ⟨c, hc, hOc⟩ ⟨d, hd, hOd⟩ => by
    subst hc; subst hd
    exact spr_renamed hf hps (hOc.lli.mono g3) (sq_of hOd.2)
theorem spr_ren {a b : Addr} {n : Nat} {f : Nat → Nat → Int} {ps : List Nat} (hn : n ≤ 100) (hps : Names n ps) (hM : LLI K H a (Fm n f)) (hN : LI K H b (nI ps)) : SpR (sp__law_renamed K) [.ref a, .ref b] H (RM (Fm n (renF f ps))) := fun H1 e1 Q q E =>
  ⟨a, b, n, f, ps, rfl, hM.mono e1, hN.mono e1, hps, hn, fun H' p e hO => q _ H' e ⟨p, rfl, hO⟩⟩
theorem er_renR {n : Nat} {b : Addr} {f : Nat → Nat → Int} {ps : List Nat} (hn : n ≤ 100) (hps : Names n ps) (h1 : Er t1 σ H (RM (Fm n f))) (h2 : Ev t2 σ H (.ref b)) (hN : LI K H b (nI ps)) : Er (tCall (sp__law_renamed K) [] E (tCons t1 (tCons t2 tNil))) σ H (RM (Fm n (renF f ps))) :=
  er_callR1 mon_RM h1 (ea_cons h2 ea_nil) fun v1 G1 G2 G3 g1 g2 g3 ⟨c, hc, hOc⟩ => by
    subst hc
    exact spr_ren hn hps (hOc.lli.mono g3) (hN.mono ((g1.trans g2).trans g3))
theorem er_ren {n : Nat} {a b : Addr} {f : Nat → Nat → Int} {ps : List Nat} (hn : n ≤ 100) (hps : Names n ps) (h1 : Ev t1 σ H (.ref a)) (hM : LLI K H a (Fm n f)) (h2 : Ev t2 σ H (.ref b)) (hN : LI K H b (nI ps)) : Er (tCall (sp__law_renamed K) [] E (tCons t1 (tCons t2 tNil))) σ H (RM (Fm n (renF f ps))) :=
  er_call mon_RM (ea_cons h1 (ea_cons h2 ea_nil)) (spr_ren hn hps hM hN)
theorem ev_likeRR {M N : List (List Int)} (h1 : Er t1 σ H (RM M)) (h2 : Er t2 σ H (RM N)) (hs : SmallM M) : Ev (tCall (sp__law_like K) [] E (tCons t1 (tCons t2 tNil))) σ H (.bl (decide (M = N))) :=
  ev_callR2 h1 h2 fun v1 v2 G1 G2 G3 g1 g2 g3 ⟨c, hc, hOc⟩ ⟨d, hd, hOd⟩ => by
    subst hc; subst hd
    exact spv_like (hOc.tll.mono g3) hOd.lli hs
theorem er_alikeRR {n m : Nat} {f g : Nat → Nat → Int} (hf : FormOf n f) (hg : FormOf m g) (h1 : Er t1 σ H (RM (Fm n f))) (h2 : Er t2 σ H (RM (Fm m g))) : Er (tCall (sp_alike K) [] E (tCons t1 (tCons t2 tNil))) σ H (RNew (alikeV n m f g)) :=
  er_callR2 mon_RNew h1 h2 fun v1 v2 G1 G2 G3 g1 g2 g3 ⟨c, hc, hOc⟩ ⟨d, hd, hOd⟩ => by
    subst hc; subst hd
    exact fun H4 e4 Q q E => ⟨c, d, n, m, f, g, rfl, hOc.lli.mono (g3.trans e4), hOd.lli.mono e4, hf, hg, fun v H' e hv => q v H' e hv⟩
end
end AT

/-! ## least names -/
namespace AT
open PySem
def leastM (n : Nat) (f : Nat → Nat → Int) : Mat := minL ((allAt n n).map fun ps => Fm n (renF f ps))
theorem allAt_ne {n : Nat} : allAt n n ≠ [] := fun e => by
  have : List.range n ∈ allAt n n := by rw [allAt_comp]; exact mem_comp (List.Perm.refl _)
  rw [e] at this
  cases this
theorem mem_allAt_iff {n : Nat} {ps : List Nat} : ps ∈ allAt n n ↔ Names n ps := ⟨names_allAt, fun h => by rw [allAt_comp]; exact mem_comp h⟩
theorem least_mem (n : Nat) (f : Nat → Nat → Int) : ∃ ps, Names n ps ∧ leastM n f = Fm n (renF f ps) := by
  have h : leastM n f ∈ (allAt n n).map fun ps => Fm n (renF f ps) := minL_mem (by simpa using allAt_ne)
  obtain ⟨ps, h1, h2⟩ := List.mem_map.mp h
  exact ⟨ps, names_allAt h1, h2.symm⟩
/-- names, then names -/
def thenN (n : Nat) (ps qs : List Nat) : List Nat := (List.range n).map fun t => qs.getD (ps.getD t 0) 0
theorem thenN_getD {n t : Nat} {ps qs : List Nat} (ht : t < n) : (thenN n ps qs).getD t 0 = qs.getD (ps.getD t 0) 0 := by
  unfold thenN
  rw [List.getD_eq_getElem?_getD, List.getElem?_map, List.getElem?_range ht]
  rfl
theorem names_inj {n i j : Nat} {ps : List Nat} (h : Names n ps) (hi : i < n) (hj : j < n) (e : ps.getD i 0 = ps.getD j 0) : i = j := by
  have h1 := (names_getD h hi).2
  rw [e, (names_getD h hj).2] at h1
  exact h1.symm
theorem thenN_names {n : Nat} {ps qs : List Nat} (h : Names n ps) (h2 : Names n qs) : Names n (thenN n ps qs) := by
  refine perm_of_sub ?_ (fun x hx => ?_) (by unfold thenN; simp)
  · unfold thenN
    rw [List.Nodup, List.pairwise_map]
    refine List.Pairwise.imp_of_mem (fun {i j} hi hj hne e => hne ?_) List.nodup_range
    have hi := List.mem_range.mp hi
    have hj := List.mem_range.mp hj
    exact names_inj h hi hj (names_inj h2 (names_getD h hi).1 (names_getD h hj).1 e)
  · obtain ⟨i, hi, rfl⟩ := List.mem_map.mp hx
    exact List.mem_range.mpr (names_getD h2 (names_getD h (List.mem_range.mp hi)).1).1
theorem names_at_ix {n i : Nat} {ps : List Nat} (h : Names n ps) (hi : i < n) : ps.getD (ps.idxOf i) 0 = i := by
  rw [List.getD_eq_getElem?_getD, h.at_ix hi]
  rfl
theorem thenN_ix {n i : Nat} {ps qs : List Nat} (h : Names n ps) (h2 : Names n qs) (hi : i < n) : (thenN n ps qs).idxOf i = ps.idxOf (qs.idxOf i) := by
  have ht := h.ix (h2.ix hi)
  have e : (thenN n ps qs).getD (ps.idxOf (qs.idxOf i)) 0 = i := by rw [thenN_getD ht, names_at_ix h (h2.ix hi), names_at_ix h2 hi]
  have := (names_getD (thenN_names h h2) ht).2
  rw [e] at this
  exact this
theorem ren_ren {n : Nat} {f : Nat → Nat → Int} {ps qs : List Nat} (h : Names n ps) (h2 : Names n qs) : Fm n (renF (renF f ps) qs) = Fm n (renF f (thenN n ps qs)) := fm_ext fun i j hi hj => by
  show f (ps.idxOf (qs.idxOf i)) (ps.idxOf (qs.idxOf j)) = f ((thenN n ps qs).idxOf i) ((thenN n ps qs).idxOf j)
  rw [thenN_ix h h2 hi, thenN_ix h h2 hj]
theorem inv_ix {n i : Nat} {ps : List Nat} (h : Names n ps) (hi : i < n) : (invN n ps).idxOf i = ps.getD i 0 := by
  have hq := names_getD h hi
  have e : (invN n ps).getD (ps.getD i 0) 0 = i := by rw [invN_getD hq.1, hq.2]
  have := (names_getD (invN_names h) hq.1).2
  rw [e] at this
  exact this
theorem least_ren {n : Nat} {f : Nat → Nat → Int} {ps : List Nat} (h : Names n ps) : leastM n (renF f ps) = leastM n f := by
  refine minL_eq fun y => ⟨fun hy => ?_, fun hy => ?_⟩
  · obtain ⟨qs, h1, rfl⟩ := List.mem_map.mp hy
    exact List.mem_map.mpr ⟨thenN n ps qs, mem_allAt_iff.mpr (thenN_names h (names_allAt h1)), (ren_ren h (names_allAt h1)).symm⟩
  · obtain ⟨rs, h1, rfl⟩ := List.mem_map.mp hy
    have hr := names_allAt h1
    have hi := invN_names h
    refine List.mem_map.mpr ⟨thenN n (invN n ps) rs, mem_allAt_iff.mpr (thenN_names hi hr), ?_⟩
    refine fm_ext fun i j hi' hj' => ?_
    show f (ps.idxOf ((thenN n (invN n ps) rs).idxOf i)) (ps.idxOf ((thenN n (invN n ps) rs).idxOf j)) = f (rs.idxOf i) (rs.idxOf j)
    rw [thenN_ix hi hr hi', thenN_ix hi hr hj', inv_ix h (hr.ix hi'), inv_ix h (hr.ix hj'), (names_getD h (hr.ix hi')).2, (names_getD h (hr.ix hj')).2]
theorem leastM_ext {n : Nat} {f g : Nat → Nat → Int} (h : ∀ i j, i < n → j < n → f i j = g i j) : leastM n f = leastM n g := by
  unfold leastM
  refine congrArg minL (List.map_congr_left fun ps hps => ?_)
  exact renF_ext (names_allAt hps) h
end AT

/-! ## least, and the defs that refuse a form of too many boxes -/
namespace AT
open PySem PySem.Spec PyProof.Rows L2 Evl
def sp_all_names : Sp := sp__law_all_names
def sp_least_by (K : Frag) : Sp := fun vs H Q _ => ∃ a n f, vs = [.ref a] ∧ LLI K H a (Fm n f) ∧ n ≤ 5 ∧ ∀ H' p, Ex H H' → OLLI H H' p (leastM n f) → Q (.ref p) H'
def sp_must_be_few (K : Frag) (CF CT : Addr) : Sp := fun vs H Q E => ∃ a M, vs = [.ref a] ∧ LLI K H a M ∧ SmallM M ∧ ∀ H', Ex H H' → (¬ IsForm M → E (.ref CF) none H') ∧ (∀ n f, M = Fm n f → FormOf n f → (4 < n → E (.ref CT) none H') ∧ (n ≤ 4 → Q .non H'))
def sp_least (K : Frag) (CF CT : Addr) : Sp := fun vs H Q E => ∃ a M, vs = [.ref a] ∧ LLI K H a M ∧ SmallM M ∧ (¬ IsForm M → ∀ H', Ex H H' → E (.ref CF) none H') ∧ (∀ n f, M = Fm n f → FormOf n f → (4 < n → ∀ H', Ex H H' → E (.ref CT) none H') ∧ (n ≤ 4 → ∀ H' p, Ex H H' → OLLI H H' p (leastM n f) → Q (.ref p) H'))
/-- a form of more than four boxes is refused -/
def sp_many1 (K : Frag) (CT : Addr) : Sp := fun vs H _ E => ∃ a n f, vs = [.ref a] ∧ LLI K H a (Fm n f) ∧ FormOf n f ∧ 4 < n ∧ ∀ H', Ex H H' → E (.ref CT) none H'
def sp_many2 (K : Frag) (CT : Addr) : Sp := fun vs H _ E => ∃ a b n f M, vs = [.ref a, .ref b] ∧ LLI K H a (Fm n f) ∧ FormOf n f ∧ 4 < n ∧ LLI K H b M ∧ SmallM M ∧ IsForm M ∧ ∀ H', Ex H H' → E (.ref CT) none H'
section
variable {X : Cx}
theorem pssN' {sts : List Stmt} : PSs X sts (fun _ _ _ => False) := ⟨fun _ _ _ _ _ _ h => h.elim⟩
theorem peN' {e : Expr} : PE X e (fun _ _ _ => False) := ⟨fun _ _ _ _ _ _ h => h.elim⟩
theorem callN' {f : Value} : CallR X f (fun _ _ _ => False) := fun _ _ _ _ _ _ _ _ _ h => h.elim
end
section
variable {P : Program} {w : World} {K : Frag} {mg : Str → Option Value} {base : Heap} {k : Nat}
theorem row_ne {n : Nat} {l : List (List Nat)} : ∀ {r : List Int}, r ∈ (l.flatMap (ext n)).map nI → r ≠ [] := fun {r} hr e => by
  obtain ⟨qs, h1, h2⟩ := List.mem_map.mp hr
  obtain ⟨ps, _, h3⟩ := List.mem_flatMap.mp h1
  obtain ⟨x, _, _, rfl⟩ := mem_ext.mp h3
  rw [e] at h2
  have := congrArg List.length h2
  rw [nI_len] at this
  simp at this
theorem ok_all_names (T : Txt K mg) : FnOk P w K mg base CX0 (k + 1) T.f_all_names T.d_all_names ["count"] sp_all_names := by
  refine T.F_all_names.ok sc_all_names (fun vs H Q E h => ?_) (fun cdv A outer s H vs Q E hr h => ?_)
  · obtain ⟨n, rfl, _⟩ := h
    rfl
  · obtain ⟨n, rfl, hn, q⟩ := h
    refine ⟨_, (pss_cons (ps_set (i := 1) sc_all_names.nd rfl (.inl rfl) (pe_lst (pa_cons (pe_lst pa_nil) pa_nil)))
      (pss_cons (ps_for PassesOwn.never rfl (pi_range1 rfl T.b_range (pa_cons (pv 0) pa_nil)) (pg_name (i := 2) sc_all_names.nd rfl (.inl rfl))
        (pss_cons (ps_set (i := 3) sc_all_names.nd rfl (.inl rfl) (pe_lst pa_nil))
      (pss_cons (ps_for PassesOwn.never rfl (pi_listK K (pv 1)) (pg_name (i := 4) sc_all_names.nd rfl (.inr rfl))
        (pss_one (ps_expr (bmK K PySem.F.plainAttrs_list PySem.F.slot_list_extend PySem.F.type_list_extend mt_extend (pv 3) (pa_cons (pe_lc (own := [("name", 5)]) rfl sc_all_names.nd (pi_range1 rfl T.b_range (pa_cons (pv 0) pa_nil)) (blkOk_by (own := [("name", 5)]) (N := N_all_names) (sc := defScope s_all_names) (by decide +kernel)) (fun _ _ _ _ _ => (pg_name (i := 5) sc_all_names.nd rfl (.inl rfl))) (fun _ _ _ _ _ => (pts_one (pt_cmpR (ninK K) (pv 5) (pv 4) rfl))) (fun _ _ _ _ _ => (pe_op op_cat (pv 4) (pe_lst (pa_cons (pv 5) pa_nil))))) pa_nil)))))
      (pss_one (ps_set (i := 1) sc_all_names.nd rfl (.inl rfl) (pv 3))))))
      (pss_one (ps_ret (pv 1))))), ?_⟩
    refine qr_asg (er_lstM (row := []) (er_of_evl (el_lst ea_nil (by decide)))) fun v H1 e1 ⟨p, hv, hO⟩ => ?_
    subst hv
    refine q_forR1 (n := (n : Int)) (ea_cons (ev_var rfl) ea_nil) (by omega) (fun t σ' H' => ∃ p x2 x3 x4 x5, σ' = [some (.int (n : Int)), some (.ref p), x2, x3, x4, x5] ∧ Ex H H' ∧ H p = none ∧ TL H' p ((allAt n t).map nI))
      (fun H2 e2 => ⟨p, _, _, _, _, rfl, e1.trans e2, hO.fresh, hO.tl.mono e2⟩) (fun t σ' H' ht hP => ?_) (fun σ' H' hP => ?_)
    · obtain ⟨p, x2, x3, x4, x5, rfl, eH, hp0, as, hA, hAP⟩ := hP
      have hal : as.length = (allAt n t).length := by rw [hAP.length, List.length_map]
      refine q_asgL (xs := []) (el_lst ea_nil (by simp)) fun q0 H2 hq0 e2 hq02 => ?_
      refine q_forLn (a := p) (xs := as.map V.ref) (ev_var rfl) (sq_of (e2 _ _ hA)) (fun i σ' H'' => ∃ x4 x5, σ' = [some (.int (n : Int)), some (.ref p), some (.int (t : Int)), some (.ref q0), x4, x5] ∧ Ex H' H'' ∧ TL H'' q0 ((((allAt n t).take i).flatMap (ext n)).map nI))
        (fun H3 e3 => ⟨_, _, rfl, e2.trans e3, [], e3 _ _ hq02, .nil⟩) (fun i σ' H'' _ hP => by obtain ⟨x4, x5, rfl, e, _⟩ := hP; exact sq_of (e _ _ hA)) (fun i x σ' H'' hx hP => ?_) (fun σ' H'' hP => ?_)
      · obtain ⟨x4, x5, rfl, e, bs, hB, hBP⟩ := hP
        rw [List.getElem?_map] at hx
        cases hax : as[i]? with
        | none => rw [hax] at hx; cases hx
        | some c =>
          rw [hax] at hx
          cases hx
          obtain ⟨r, hr1, hr2⟩ := paired_getL hAP hax
          rw [List.getElem?_map] at hr1
          cases hps : (allAt n t)[i]? with
          | none => rw [hps] at hr1; cases hr1
          | some ps =>
            rw [hps] at hr1
            cases hr1
            have hpl := (mem_allAt (List.mem_of_getElem? hps)).2
            have e3 : Ex H'' H'' := Ex.refl _
            refine ⟨.ref q0, rfl, .inl ⟨rfl, _, sq_of hB⟩, ?_⟩
            refine er_ext (K := K) (c := c) (n := n) (ps := ps) (j := 5) (ws := [5]) (tn := tVar 4) (ta := tCons (tVar 0) tNil) (σ := [some (.int (n : Int)), some (.ref p), some (.int (t : Int)), some (.ref q0), some (.ref c), x5]) (ea_cons (ev_var rfl) ea_nil) (by omega) (fun _ => rfl) (e _ _ hr2) (by omega) (fun i H => ev_var rfl) (fun i => rfl) H'' e3 _ fun v H4 e4 ⟨p2, hv, hp2, cs, hC, hCP⟩ => ?_
            subst hv
            have hB4 := (e3.trans e4) _ _ hB
            have hbl : bs.length ≤ 46656 * 6 := by
              rw [hBP.length, List.length_map]
              refine Nat.le_trans (flat_len (c := 6) _ fun x _ => Nat.le_trans (ext_len n x) hn) (Nat.mul_le_mul_right 6 ?_)
              rw [List.length_take]
              exact Nat.le_trans (Nat.min_le_right _ _) (allAt_small hn (by omega))
            have hcl : cs.length ≤ 6 := by rw [hCP.length, List.length_map]; exact Nat.le_trans (ext_len n ps) hn
            refine ⟨q0, p2, _, _, rfl, rfl, hB4, hC, Nat.le_trans (show _ ≤ 300000 by simp; omega) (by decide), ?_⟩
            have hne : ∀ {x : Addr} {r : List Int}, r ≠ [] → H4 x = some (.lst (r.map V.int)) → x ≠ q0 := fun {x r} hr hx e => by
              subst e
              rw [hB4] at hx
              injection hx with hx
              injection hx with hx
              cases r with
              | nil => exact hr rfl
              | cons y r =>
                cases bs with
                | nil => cases hx
                | cons b bs => cases hx
            have hall : Paired (fun x r => H4 x = some (.lst (r.map V.int))) (bs ++ cs) ((((allAt n t).take (i + 1)).flatMap (ext n)).map nI) := by
              rw [List.take_add_one, hps, List.flatMap_append, List.map_append]
              refine paired_append (paired_mono hBP fun x r z => (e3.trans e4) _ _ z) ?_
              show Paired _ cs (([ps].flatMap (ext n)).map nI)
              rw [List.flatMap_cons, List.flatMap_nil, List.append_nil]
              exact hCP
            refine ⟨_, _, rfl, Ex.mut ((e.trans e3).trans e4) (fresh_back (Ex.refl _) hq0), bs ++ cs, by rw [upd_same, List.map_append], ?_⟩
            refine paired_of (by rw [hall.length]) fun i x r hx hr => ?_
            obtain ⟨r', h1, h2⟩ := paired_getL hall hx
            rw [hr] at h1
            injection h1 with h1
            subst h1
            rw [upd_ne (hne (row_ne (List.mem_of_getElem? hr)) h2)]
            exact h2
      · obtain ⟨x4, x5, rfl, e, hT⟩ := hP
        refine s_asg (ev_var rfl) fun H3 e3 => ⟨q0, _, _, _, _, rfl, (eH.trans e).trans e3, fresh_back eH hq0, ?_⟩
        rw [List.length_map, hal, List.take_length] at hT
        exact hT.mono e3
    · obtain ⟨p, x2, x3, x4, x5, rfl, eH, hp0, hT⟩ := hP
      exact s_ret (ev_var rfl) fun H2 e2 => q H2 p (eH.trans e2) hp0 (hT.mono e2)
theorem sp_names_er {σ : St} {H : Hp} {n : Nat} {ta : TE} (h : Ev ta σ H (.int (n : Int))) (hn : n ≤ 6) : Er (tCall sp__law_all_names [] E0 (tCons ta tNil)) σ H (fun H1 H2 v => ∃ p, v = .ref p ∧ H1 p = none ∧ TL H2 p ((allAt n n).map nI)) := fun H1 e Q q =>
  h H1 e _ fun H2 e2 => ⟨n, rfl, hn, fun H3 p e3 hp hT => q _ H3 (e2.trans e3) ⟨p, rfl, fresh_back e2 hp, hT⟩⟩
/-- [a form renamed for all names] -/
theorem er_allRen {σ : St} {H : Hp} {te tn : TE} {n j : Nat} {f : Nat → Nat → Int} {ws : List Nat} (hn : Ev tn σ H (.int (n : Int))) (h5 : n ≤ 5) (hw : ∀ x, wipe ((wipe σ ws).set j (some x)) ws = wipe σ ws)
    (he : ∀ (c : Addr) (ps : List Nat) H1, Ex H H1 → Names n ps → LI K H1 c (nI ps) → Er te ((wipe σ ws).set j (some (.ref c))) H1 (RM (Fm n (renF f ps)))) :
    Er (tCB (rMinD K) (tCons (tLc (iList K (tCall sp__law_all_names [] E0 (tCons tn tNil))) (gName j) tYes te ws) tNil)) σ H (RM (leastM n f)) := by
  have h := er_lcN (K := K) (t := tYes) (te := te) (n := (allAt n n).length) (fun _ => true) (fun i => RM (Fm n (renF f ((allAt n n).getD i [])))) (fun i => mon'_RM) (sp_names_er hn (by omega)) (Nat.le_trans (allAt_len (by omega) n (by omega)) (Nat.le_trans (Nat.pow_le_pow_right (by decide) h5) (by decide))) hw (fun G1 G2 v g1 g2 hv => ?_)
  · have h2 := er_minRM (K := K) (idx := (List.range (allAt n n).length).filter fun _ => true) h (by
      rw [filt_all]
      intro e
      have := congrArg List.length e
      rw [List.length_range] at this
      exact allAt_ne (List.length_eq_zero_iff.mp this))
    rw [filt_all] at h2
    have e : (List.range (allAt n n).length).map (fun i => Fm n (renF f ((allAt n n).getD i []))) = (allAt n n).map fun ps => Fm n (renF f ps) := by
      conv => rhs; rw [list_eq_range [] (allAt n n)]
      rw [List.map_map]
      rfl
    rw [e] at h2
    exact h2
  · obtain ⟨p, rfl, hp, as, hA, hAP⟩ := hv
    refine ⟨p, as.map V.ref, rfl, sq_of hA, by rw [List.length_map, hAP.length, List.length_map], fun i x G3 hx g3 => ⟨fun H1 e Q q => q H1 (Ex.refl _), fun _ => ?_⟩⟩
    rw [List.getElem?_map] at hx
    cases hax : as[i]? with
    | none => rw [hax] at hx; cases hx
    | some c =>
      rw [hax] at hx
      cases hx
      obtain ⟨r, hr1, hr2⟩ := paired_getL hAP hax
      rw [List.getElem?_map] at hr1
      cases hps : (allAt n n)[i]? with
      | none => rw [hps] at hr1; cases hr1
      | some ps =>
        rw [hps] at hr1
        cases hr1
        have e : (allAt n n).getD i [] = ps := by rw [List.getD_eq_getElem?_getD, hps]; rfl
        rw [e]
        exact he c ps G3 ((g1.trans g2).trans g3) (names_allAt (List.mem_of_getElem? hps)) (sq_of (g3 _ _ hr2))
theorem ok_least_by (T : Txt K mg) (G_all_names : FnOk P w K mg base CX0 k T.f_all_names T.d_all_names ["count"] sp_all_names) (G_renamed_by : FnOk P w K mg base CX0 k T.f_renamed_by T.d_renamed_by ["form", "names"] (sp_renamed_by K)) : FnOk P w K mg base CX0 (k + 1) T.f_least_by T.d_least_by ["form"] (sp_least_by K) := by
  refine T.F_least_by.ok sc_least_by (fun vs H Q E h => ?_) (fun cdv A outer s H vs Q E hr h => ?_)
  · obtain ⟨a, n, f, rfl, _⟩ := h
    rfl
  · obtain ⟨a, n, f, rfl, hM, h5, q⟩ := h
    refine ⟨_, (pss_one (ps_ret (pe_callB (minDK K rfl hr.units) rfl T.b_min (by decide +kernel) (pa_cons (pe_lc (own := [("names", 1)]) rfl sc_least_by.nd (pi_listK K (pe_call G_all_names hr rfl T.m_all_names T.F_all_names.kp T.b_all_names .nil pass0 (pa_cons (pe_callB (lenK K) rfl T.b_len PySem.boot_len (pa_cons (pv 0) pa_nil)) pa_nil))) (blkOk_by (own := [("names", 1)]) (N := N_least_by) (sc := defScope s_least_by) (by decide +kernel)) (fun _ _ _ _ _ => (pg_name (i := 1) sc_least_by.nd rfl (.inl rfl))) (fun _ _ _ _ _ => pts_nil) (fun _ _ _ _ _ => (pe_call G_renamed_by hr rfl T.m_renamed_by T.F_renamed_by.kp T.b_renamed_by .nil pass0 (pa_cons (pv 0) (pa_cons (pv 1) pa_nil))))) pa_nil)))), ?_⟩
    refine sr_ret (er_allRen (K := K) (n := n) (f := f) (ev_lenFm (ev_var rfl) hM) h5 (fun _ => rfl) fun c ps H1 e1 hps hc => ?_) fun v H1 e1 ⟨p, hv, hO⟩ => by
      subst hv
      exact q H1 p e1 hO
    exact er_call mon_RM (ea_cons (ev_var (v := .ref a) rfl) (ea_cons (ev_var (v := .ref c) rfl) ea_nil)) fun G1 g1 Q' q' E' => ⟨a, c, n, f, ps, rfl, hM.mono (e1.trans g1), hc.mono g1, hps, by omega, fun H' p' e' hO' => q' _ H' e' ⟨p', rfl, hO'⟩⟩
theorem ok_must_be_few (T : Txt K mg) (G_must_form : FnOk P w K mg base (L2.CX P w) k T.f_must_form T.d_must_form ["form"] (sp_must_form K T.c_NoForm)) : FnOk P w K mg base (L2.CX P w) (k + 1) T.f_must_be_few T.d_must_be_few ["form"] (sp_must_be_few K T.c_NoForm T.c_TooMany) := by
  refine T.F_must_be_few.okX sc_must_be_few (fun vs H Q E h => ?_) (fun cdv A outer s H vs Q E hr h => ?_)
  · obtain ⟨a, M, rfl, _⟩ := h
    rfl
  · obtain ⟨a, M, rfl, hM, hs, q⟩ := h
    refine ⟨_, (pss_cons (ps_expr (pe_call G_must_form hr rfl T.m_must_form T.F_must_form.kp T.b_must_form .nil (passes_call (takes_of rfl rfl rfl rfl) (fun _ _ _ _ h => h)) (pa_cons (pv 0) pa_nil)))
      (pss_one (ps_if (pt_cmpR op_gt (pe_callB (lenK K) rfl T.b_len PySem.boot_len (pa_cons (pv 0) pa_nil)) (pe_glob (v := .int 4) rfl T.m_MOST_NAMED ⟨_, rfl⟩) (nomark _))
        (pss_one (ps_raise rfl (takes_of rfl rfl rfl rfl) (pmk_own PySem.F.excBase_ValueError T.x_TooMany.xn T.x_TooMany.g T.x_TooMany.kp (raises_own T.x_TooMany.bs T.x_TooMany.ty) rfl)))
        pss_nil))), ?_⟩
    refine ⟨.ref a, rfl, a, M, rfl, hM, hs, fun H1 e1 => ⟨fun hF => ?_, fun hF => (q H1 e1).1 hF⟩⟩
    obtain ⟨n, f, rfl, hf⟩ := hF
    have hM1 := hM.mono e1
    dsimp only
    refine s_when (et_test (ev_op (ev_lenFm (ev_var rfl) hM1) ev_c rv_I0)) (fun hb H2 e2 => ?_) (fun hb H2 e2 => ?_)
    · rw [decide_eq_true_eq] at hb
      exact ((q H2 (e1.trans e2)).2 n f rfl hf).1 (by omega)
    · rw [decide_eq_false_iff_not] at hb
      exact ((q H2 (e1.trans e2)).2 n f rfl hf).2 (by omega)
theorem ok_least (T : Txt K mg) (G_must_be_few : FnOk P w K mg base (L2.CX P w) k T.f_must_be_few T.d_must_be_few ["form"] (sp_must_be_few K T.c_NoForm T.c_TooMany)) (G_least_by : FnOk P w K mg base CX0 k T.f_least_by T.d_least_by ["form"] (sp_least_by K)) : FnOk P w K mg base (L2.CX P w) (k + 1) T.f_least T.d_least ["form"] (sp_least K T.c_NoForm T.c_TooMany) := by
  refine T.F_least.okX sc_least (fun vs H Q E h => ?_) (fun cdv A outer s H vs Q E hr h => ?_)
  · obtain ⟨a, M, rfl, _⟩ := h
    rfl
  · obtain ⟨a, M, rfl, hM, hs, q1, q2⟩ := h
    refine ⟨_, (pss_cons (ps_expr (pe_call G_must_be_few hr rfl T.m_must_be_few T.F_must_be_few.kp T.b_must_be_few .nil (passes_call (takes_of rfl rfl rfl rfl) (fun _ _ _ _ h => h)) (pa_cons (pv 0) pa_nil)))
      (pss_one (ps_ret (pe_call G_least_by hr rfl T.m_least_by T.F_least_by.kp T.b_least_by .nil pass0 (pa_cons (pv 0) pa_nil))))), ?_⟩
    refine ⟨.ref a, rfl, a, M, rfl, hM, hs, fun H1 e1 => ⟨fun hF => q1 hF H1 e1, fun n f e hf => ⟨fun h4 => (q2 n f e hf).1 h4 H1 e1, fun h4 => ?_⟩⟩⟩
    subst e
    exact ⟨.ref a, rfl, a, n, f, rfl, hM.mono e1, by omega, fun H2 p e2 hO => (q2 n f rfl hf).2 h4 H2 p (e1.trans e2) (hO.back e1)⟩
end
end AT

/-! ## is_cut and the law's own -/
namespace AT
open PySem PySem.Spec PyProof.Rows L2 Evl
def lineB (c : Int) (p : Ln) : Bool := decide (0 ≤ p.1) && (decide (p.2 < c) && (decide (p.1 + 1 < p.2) && decide (p.2 - p.1 < c - 1)))
def crossB (p q : Ln) : Bool := (decide (p.1 < q.1) && (decide (q.1 < p.2) && decide (p.2 < q.2))) || (decide (q.1 < p.1) && (decide (p.1 < q.2) && decide (q.2 < p.2)))
def lnD (ls : List Ln) (k : Nat) : Ln := ls.getD k (0, 0)
def CutAt (c : Int) (ls : List Ln) (k : Nat) : Prop := lineB c (lnD ls k) = true ∧ (0 < k → ltP (lnD ls (k - 1)) (lnD ls k) = true) ∧ ∀ j, j < k → crossB (lnD ls j) (lnD ls k) = false
def IsCut (c : Int) (ls : List Ln) : Prop := 4 ≤ c ∧ c ≤ 9 ∧ (ls.length : Int) = c - 3 ∧ ∀ k, k < ls.length → CutAt c ls k
def sp_line_right (K : Frag) : Sp := fun vs H Q _ => ∃ (c : Int) (x : Addr) (p : Ln), vs = [.int c, .ref x] ∧ PT K H x p ∧ ∀ H', Ex H H' → Q (.bl (lineB c p)) H'
def sp_crossing (K : Frag) : Sp := fun vs H Q _ => ∃ (x y : Addr) (p q : Ln), vs = [.ref x, .ref y] ∧ PT K H x p ∧ PT K H y q ∧ ∀ H', Ex H H' → Q (.bl (crossB p q)) H'
def sp_is_cut (K : Frag) : Sp := fun vs H Q _ => ∃ (c : Int) (a : Addr) (ls : List Ln), vs = [.int c, .ref a] ∧ LP K H a ls ∧ ls.length ≤ 100 ∧ ∀ b H', Ex H H' → (b = true ↔ IsCut c ls) → Q (.bl b) H'
section
variable {K : Frag} {σ : St} {H : Hp} {ta tb tc td : TE} {x y z u : V}
theorem ev_chain3 {r r' r'' : R2} {k1 k2 k3 : Bool} (ha : Ev ta σ H x) (hb : Ev tb σ H y) (hr : RV r x y H (.bl k1)) (hc : Ev tc σ H z) (hr' : RV r' y z H (.bl k2)) (hd : Ev td σ H u) (hr'' : RV r'' z u H (.bl k3)) : Ev (tChain3 r r' r'' ta tb tc td) σ H (.bl (k1 && (k2 && k3))) := fun H1 e Q q =>
  ha H1 e _ fun H2 e2 => hb H2 (e.trans e2) _ fun H3 e3 => hr H3 ((e.trans e2).trans e3) _ fun H4 e4 => ⟨k1, rfl, by
    have e14 := ((e.trans e2).trans e3).trans e4
    cases k1 with
    | false => exact q H4 ((e2.trans e3).trans e4)
    | true =>
      show tc σ H4 _
      refine hc H4 e14 _ fun H5 e5 => hr' H5 (e14.trans e5) _ fun H6 e6 => ⟨k2, rfl, ?_⟩
      cases k2 with
      | false => exact q H6 ((((e2.trans e3).trans e4).trans e5).trans e6)
      | true =>
        show td σ H6 _
        exact hd H6 ((e14.trans e5).trans e6) _ fun H7 e7 => hr'' H7 (((e14.trans e5).trans e6).trans e7) _ fun H8 e8 => q H8 ((((((e2.trans e3).trans e4).trans e5).trans e6).trans e7).trans e8)⟩
theorem LP.gets {a : Addr} {ls : List Ln} {i : Nat} (h : LP K H a ls) (hi : i < ls.length) : ∃ x, RV (rIxL K) (.ref a) (.int (i : Int)) H (.ref x) ∧ PT K H x (lnD ls i) := h.at (by
  unfold lnD
  rw [List.getD_eq_getElem?_getD, List.getElem?_eq_getElem hi]
  rfl)
end
section
variable {P : Program} {w : World} {K : Frag} {mg : Str → Option Value} {base : Heap} {k : Nat}
theorem ok_line_right (T : Txt K mg) : FnOk P w K mg base CX0 (k + 1) T.f_line_right T.d_line_right ["corners", "line"] (sp_line_right K) := by
  refine T.F_line_right.ok sc_line_right (fun vs H Q E h => ?_) (fun cdv A outer s H vs Q E hr h => ?_)
  · obtain ⟨c, x, p, rfl, _⟩ := h
    rfl
  · obtain ⟨c, x, p, rfl, hp, q⟩ := h
    refine ⟨_, (pss_cons (ps_asg (pv 1) (pg_tupK K (n := 2) rfl (pgs_cons (pg_name (i := 2) sc_line_right.nd rfl (.inl rfl)) (pgs_cons (pg_name (i := 3) sc_line_right.nd rfl (.inl rfl)) pgs_nil))))
      (pss_one (ps_ret (pe_and (pe_cmpR op_le pe_int (pv 2) (nomark _)) (pe_and (pe_cmpR op_lt (pv 3) (pv 0) (nomark _)) (pe_and (pe_cmpR op_lt (pe_op op_add (pv 2) pe_int) (pv 3) (nomark _)) (pe_one (pe_cmpR op_lt (pe_op op_sub (pv 3) (pv 2)) (pe_op op_sub (pv 0) pe_int) (nomark _))))))))), ?_⟩
    refine ⟨.ref x, rfl, x, [.int p.1, .int p.2], rfl, hp, rfl, .int p.1, [.int p.2], rfl, .int p.2, [], rfl, rfl, ?_⟩
    dsimp only
    exact s_ret (ev_andV (ev_op ev_c (ev_var rfl) rv_I0) fun _ => ev_andV (ev_op (ev_var rfl) (ev_var rfl) rv_I0) fun _ => ev_andV (ev_op (ev_op (ev_var rfl) ev_c rv_I0) (ev_var rfl) rv_I0) fun _ => ev_op (ev_op (ev_var rfl) (ev_var rfl) rv_I0) (ev_op (ev_var rfl) ev_c rv_I0) rv_I0) fun H1 e1 => q H1 e1
theorem ok_crossing (T : Txt K mg) : FnOk P w K mg base CX0 (k + 1) T.f_crossing T.d_crossing ["line", "other"] (sp_crossing K) := by
  refine T.F_crossing.ok sc_crossing (fun vs H Q E h => ?_) (fun cdv A outer s H vs Q E hr h => ?_)
  · obtain ⟨x, y, p, q, rfl, _⟩ := h
    rfl
  · obtain ⟨x, y, p, r, rfl, hp, hq, q⟩ := h
    refine ⟨_, (pss_one (ps_ret (pe_or (pe_chain3 op_lt op_lt op_lt (pe_ix (ixT K) (pv 0) pe_int (fun _ _ => rfl)) (pe_ix (ixT K) (pv 1) pe_int (fun _ _ => rfl)) (pe_ix (ixT K) (pv 0) pe_int (fun _ _ => rfl)) (pe_ix (ixT K) (pv 1) pe_int (fun _ _ => rfl))) (pe_one (pe_chain3 op_lt op_lt op_lt (pe_ix (ixT K) (pv 1) pe_int (fun _ _ => rfl)) (pe_ix (ixT K) (pv 0) pe_int (fun _ _ => rfl)) (pe_ix (ixT K) (pv 1) pe_int (fun _ _ => rfl)) (pe_ix (ixT K) (pv 0) pe_int (fun _ _ => rfl))))))), ?_⟩
    have l1 : ∀ H1, Ex H H1 → Ev (tOp (rIxT K) (tVar 0) (tC (.int 0))) [some (V.ref x), some (.ref y)] H1 (.int p.1) := fun H1 e => ev_p1 (ev_var rfl) ev_c (hp.mono e)
    have l2 : ∀ H1, Ex H H1 → Ev (tOp (rIxT K) (tVar 0) (tC (.int 1))) [some (V.ref x), some (.ref y)] H1 (.int p.2) := fun H1 e => ev_p2 (ev_var rfl) ev_c (hp.mono e)
    have o1 : ∀ H1, Ex H H1 → Ev (tOp (rIxT K) (tVar 1) (tC (.int 0))) [some (V.ref x), some (.ref y)] H1 (.int r.1) := fun H1 e => ev_p1 (ev_var rfl) ev_c (hq.mono e)
    have o2 : ∀ H1, Ex H H1 → Ev (tOp (rIxT K) (tVar 1) (tC (.int 1))) [some (V.ref x), some (.ref y)] H1 (.int r.2) := fun H1 e => ev_p2 (ev_var rfl) ev_c (hq.mono e)
    have e0 := Ex.refl H
    exact s_ret (ev_orV (ev_chain3 (l1 H e0) (o1 H e0) rv_I0 (l2 H e0) rv_I0 (o2 H e0) rv_I0) fun _ => ev_chain3 (o1 H e0) (l1 H e0) rv_I0 (o2 H e0) rv_I0 (l2 H e0) rv_I0) fun H1 e1 => q H1 e1
theorem isCut_not {c : Int} {ls : List Ln} {k : Nat} (hk : k < ls.length) (h : ¬ CutAt c ls k) : ¬ IsCut c ls := fun z => h (z.2.2.2 k hk)
theorem ok_is_cut (T : Txt K mg) (G_line_right : FnOk P w K mg base CX0 k T.f_line_right T.d_line_right ["corners", "line"] (sp_line_right K)) (G_crossing : FnOk P w K mg base CX0 k T.f_crossing T.d_crossing ["line", "other"] (sp_crossing K)) : FnOk P w K mg base CX0 (k + 1) T.f_is_cut T.d_is_cut ["corners", "lines"] (sp_is_cut K) := by
  refine T.F_is_cut.ok sc_is_cut (fun vs H Q E h => ?_) (fun cdv A outer s H vs Q E hr h => ?_)
  · obtain ⟨c, a, ls, rfl, _⟩ := h
    rfl
  · obtain ⟨c, a, ls, rfl, hL, hl, q⟩ := h
    refine ⟨_, (pss_cons (ps_if (PW.pt (pw_or (pt_cmpR op_lt (pv 0) pe_int (nomark _)) (pw_or (pt_cmpR op_gt (pv 0) (pe_glob (v := .int 9) rfl T.m_MOST_CORNERS ⟨_, rfl⟩) (nomark _)) (pw_or1 (pt_cmpR op_ne (pe_callB (lenK K) rfl T.b_len PySem.boot_len (pa_cons (pv 1) pa_nil)) (pe_op op_sub (pv 0) pe_int) (nomark _))))))
        (pss_one (ps_ret pe_bl))
        pss_nil)
      (pss_cons (ps_for PassesOwn.never rfl (pi_range1 rfl T.b_range (pa_cons (pe_callB (lenK K) rfl T.b_len PySem.boot_len (pa_cons (pv 1) pa_nil)) pa_nil)) (pg_name (i := 2) sc_is_cut.nd rfl (.inl rfl))
        (pss_cons (ps_if (PW.pt (pw_or (pt_not (pt_val (pe_call G_line_right hr rfl T.m_line_right T.F_line_right.kp T.b_line_right .nil pass0 (pa_cons (pv 0) (pa_cons (pe_ix (ixL K) (pv 1) (pv 2) (fun _ _ => rfl)) pa_nil))))) (pw_or1 (PW.pt (pw_and (pt_cmpR op_gt (pv 2) pe_int (nomark _)) (pw_and1 (pt_cmpR (geDK K hr.units) (pe_ix (ixL K) (pv 1) (pe_op op_sub (pv 2) pe_int) (fun _ _ => rfl)) (pe_ix (ixL K) (pv 1) (pv 2) (fun _ _ => rfl)) (nomark _))))))))
        (pss_one (ps_ret pe_bl))
        pss_nil)
      (pss_one (ps_for PassesOwn.never rfl (pi_range1 rfl T.b_range (pa_cons (pv 2) pa_nil)) (pg_name (i := 3) sc_is_cut.nd rfl (.inl rfl))
        (pss_one (ps_if (pt_val (pe_call G_crossing hr rfl T.m_crossing T.F_crossing.kp T.b_crossing .nil pass0 (pa_cons (pe_ix (ixL K) (pv 1) (pv 3) (fun _ _ => rfl)) (pa_cons (pe_ix (ixL K) (pv 1) (pv 2) (fun _ _ => rfl)) pa_nil))))
        (pss_one (ps_ret pe_bl))
        pss_nil))))))
      (pss_one (ps_ret pe_bl)))), ?_⟩
    refine q_when (et_or (et_test (ev_op (ev_var rfl) ev_c rv_I0)) fun _ => et_or (et_test (ev_op (ev_var rfl) ev_c rv_I0)) fun _ => et_test (ev_op (ev_lenLP (ev_var rfl) hL) (ev_op (ev_var rfl) ev_c rv_I0) (rv_ne rfl))) (fun hb H1 e1 => s_ret ev_c fun H2 e2 => q false H2 (e1.trans e2) (bfF fun z => ?_)) (fun hb H1 e1 => ?_)
    · simp only [Bool.or_eq_true, decide_eq_true_eq, Bool.not_eq_true', decide_eq_false_iff_not] at hb
      obtain ⟨z1, z2, z3, _⟩ := z
      rcases hb with hb | hb | hb
      · omega
      · omega
      · exact hb (congrArg V.int z3)
    · simp only [Bool.or_eq_false_iff, decide_eq_false_iff_not, Bool.not_eq_false', decide_eq_true_eq] at hb
      obtain ⟨hb1, hb2, hb3⟩ := hb
      have hlc : (ls.length : Int) = c - 3 := by injection hb3
      refine q_forR1 (n := (ls.length : Int)) (ea_cons (ev_lenLP (ev_var rfl) (hL.mono e1)) ea_nil) (by omega) (fun i σ' H' => ∃ x2 x3, σ' = [some (.int c), some (.ref a), x2, x3] ∧ Ex H H' ∧ ∀ k', k' < i → CutAt c ls k') (fun H2 e2 => ⟨_, _, rfl, e1.trans e2, fun k' h => absurd h (Nat.not_lt_zero _)⟩) (fun i σ' H' hi hP => ?_) (fun σ' H' hP => ?_)
      · obtain ⟨x2, x3, rfl, eH, hc⟩ := hP
        have hil : i < ls.length := by omega
        obtain ⟨x, hx, hxp⟩ := (hL.mono eH).gets hil
        refine q_when (b := !lineB c (lnD ls i) || (decide (0 < i) && !ltP (lnD ls (i - 1)) (lnD ls i))) (et_or (et_not (et_test (ev_call (z := .bl (lineB c (lnD ls i))) (ea_cons (ev_var (v := .int c) rfl) (ea_cons (ev_op (ev_var (v := .ref a) rfl) (ev_var (v := .int (i : Int)) rfl) hx) ea_nil)) fun G1 g1 Q' q' E' => ⟨c, x, _, rfl, hxp.mono g1, q'⟩))) fun _ => et_and (et_is (et_test (ev_op (ev_var (v := .int (i : Int)) rfl) ev_c rv_I0)) (decide_eq_decide.mpr (by omega))) fun h0 => ?_) (fun hb H2 e2 => s_ret ev_c fun H3 e3 => q false H3 ((eH.trans e2).trans e3) (bfF (isCut_not hil fun z => ?_))) (fun hb H2 e2 => ?_)
        · have h0 : 0 < i := by simpa using h0
          obtain ⟨y, hy, hyp⟩ := (hL.mono eH).gets (i := i - 1) (by omega)
          have hm1 : (i : Int) - 1 = ((i - 1 : Nat) : Int) := by omega
          have hix : Ev (tOp (rI0 fun i j => .int (i - j)) (tVar 2) (tC (.int 1))) [some (.int c), some (V.ref a), some (.int (i : Int)), x3] H' (.int ((i - 1 : Nat) : Int)) := by
            have := ev_op (σ := [some (.int c), some (V.ref a), some (.int (i : Int)), x3]) (H := H') (ev_var (v := .int (i : Int)) (i := 2) rfl) (ev_c (v := .int 1)) (rv_I0 (g := fun i j => .int (i - j)))
            rw [hm1] at this
            exact this
          exact et_test (ev_op (ev_op (ev_var (v := .ref a) rfl) hix hy) (ev_op (ev_var (v := .ref a) rfl) (ev_var (v := .int (i : Int)) rfl) hx) (rv_geP hyp hxp))
        · simp only [Bool.or_eq_true, Bool.not_eq_true', Bool.and_eq_true, decide_eq_true_eq] at hb
          rcases hb with hb | ⟨hb, hb'⟩
          · rw [z.1] at hb; cases hb
          · rw [z.2.1 hb] at hb'; cases hb'
        · simp only [Bool.or_eq_false_iff, Bool.not_eq_false', Bool.and_eq_false_iff, decide_eq_false_iff_not] at hb
          obtain ⟨hb1, hb2⟩ := hb
          refine s_forR1 (n := (i : Int)) (ea_cons (ev_var rfl) ea_nil) (by omega) (fun j σ' H' => ∃ x3, σ' = [some (.int c), some (.ref a), some (.int (i : Int)), x3] ∧ Ex H H' ∧ ∀ j', j' < j → crossB (lnD ls j') (lnD ls i) = false) (fun H3 e3 => ⟨_, rfl, (eH.trans e2).trans e3, fun j' h => absurd h (Nat.not_lt_zero _)⟩) (fun j σ' H3 hj hP => ?_) (fun σ' H3 hP => ?_)
          · obtain ⟨x3, rfl, e3, hj'⟩ := hP
            obtain ⟨x, hx, hxp⟩ := (hL.mono e3).gets hil
            obtain ⟨y, hy, hyp⟩ := (hL.mono e3).gets (i := j) (by omega)
            refine s_when (et_test (ev_call (z := .bl (crossB (lnD ls j) (lnD ls i))) (ea_cons (ev_op (ev_var (v := .ref a) rfl) (ev_var (v := .int (j : Int)) rfl) hy) (ea_cons (ev_op (ev_var (v := .ref a) rfl) (ev_var (v := .int (i : Int)) rfl) hx) ea_nil)) fun G1 g1 Q' q' E' => ⟨y, x, _, _, rfl, hyp.mono g1, hxp.mono g1, q'⟩)) (fun hcr H4 e4 => s_ret ev_c fun H5 e5 => q false H5 ((e3.trans e4).trans e5) (bfF (isCut_not hil fun z => ?_))) (fun hcr H4 e4 => ⟨_, rfl, e3.trans e4, fun j' h => ?_⟩)
            · rw [z.2.2 j (by omega)] at hcr
              cases hcr
            · by_cases e : j' = j
              · rw [e]; exact hcr
              · exact hj' j' (by omega)
          · obtain ⟨x3, rfl, e3, hj'⟩ := hP
            refine ⟨_, _, rfl, e3, fun k' h => ?_⟩
            by_cases e : k' = i
            · subst e
              exact ⟨hb1, fun h0 => hb2.resolve_left fun z => z h0, fun j hj => hj' j (by simpa using hj)⟩
            · exact hc k' (by omega)
      · obtain ⟨x2, x3, rfl, eH, hc⟩ := hP
        exact s_ret ev_c fun H3 e3 => q true H3 (eH.trans e3) (bfT ⟨by omega, by omega, hlc, fun k' h => hc k' (by simpa using h)⟩)
theorem inV_two (d a b : Int) : inV (.int d) [.int a, .int b] = (decide (d = a) || decide (d = b)) := by
  simp only [inV, List.any_cons, List.any_nil, eqV, Bool.or_false]
  by_cases h1 : a = d
  · simp [h1]
  · by_cases h2 : b = d
    · simp [h2]
    · have h3 : ¬ d = a := fun z => h1 z.symm
      have h4 : ¬ d = b := fun z => h2 z.symm
      simp [h1, h2, h3, h4]
theorem lineB_law (c : Int) (p : Ln) : ((decide (0 ≤ p.1) && (decide (p.1 < p.2) && decide (p.2 < c))) && !(decide (p.2 - p.1 = 1) || decide (p.2 - p.1 = c - 1))) = lineB c p := by
  unfold lineB
  rw [Bool.eq_iff_iff]
  simp only [Bool.and_eq_true, decide_eq_true_eq, Bool.not_eq_true', Bool.or_eq_false_iff, decide_eq_false_iff_not]
  omega
theorem ok__law_line (T : Txt K mg) : FnOk P w K mg base CX0 (k + 1) T.f__law_line T.d__law_line ["corners", "line"] (sp_line_right K) := by
  refine T.F__law_line.ok sc__law_line (fun vs H Q E h => ?_) (fun cdv A outer s H vs Q E hr h => ?_)
  · obtain ⟨c, x, p, rfl, _⟩ := h
    rfl
  · obtain ⟨c, x, p, rfl, hp, q⟩ := h
    refine ⟨_, (pss_cons (ps_asg (pv 1) (pg_tupK K (n := 2) rfl (pgs_cons (pg_name (i := 2) sc__law_line.nd rfl (.inl rfl)) (pgs_cons (pg_name (i := 3) sc__law_line.nd rfl (.inl rfl)) pgs_nil))))
      (pss_one (ps_ret (pe_and (pe_chain3 op_le op_lt op_lt pe_int (pv 2) (pv 3) (pv 0)) (pe_one (pe_cmpR (ninK K) (pe_op op_sub (pv 3) (pv 2)) (pe_tup (pa_cons pe_int (pa_cons (pe_op op_sub (pv 0) pe_int) pa_nil))) rfl)))))), ?_⟩
    refine ⟨.ref x, rfl, x, [.int p.1, .int p.2], rfl, hp, rfl, .int p.1, [.int p.2], rfl, .int p.2, [], rfl, rfl, ?_⟩
    dsimp only
    refine s_ret (ev_andV (ev_chain3 ev_c (ev_var rfl) rv_I0 (ev_var rfl) rv_I0 (ev_var rfl) rv_I0) fun _ => ev_niU (ev_op (ev_var rfl) (ev_var rfl) rv_I0) (eu_tup (ea_cons ev_c (ea_cons (ev_op (ev_var rfl) ev_c rv_I0) ea_nil)) (by show 2 ≤ 100000; decide)) rfl rfl) fun H1 e1 => ?_
    rw [inV_two, lineB_law]
    exact q H1 e1
theorem ok__law_cross (T : Txt K mg) : FnOk P w K mg base CX0 (k + 1) T.f__law_cross T.d__law_cross ["line", "other"] (sp_crossing K) := by
  refine T.F__law_cross.ok sc__law_cross (fun vs H Q E h => ?_) (fun cdv A outer s H vs Q E hr h => ?_)
  · obtain ⟨x, y, p, q, rfl, _⟩ := h
    rfl
  · obtain ⟨x, y, p, r, rfl, hp, hq, q⟩ := h
    refine ⟨_, (pss_one (ps_ret (pe_or (pe_chain3 op_lt op_lt op_lt (pe_ix (ixT K) (pv 0) pe_int (fun _ _ => rfl)) (pe_ix (ixT K) (pv 1) pe_int (fun _ _ => rfl)) (pe_ix (ixT K) (pv 0) pe_int (fun _ _ => rfl)) (pe_ix (ixT K) (pv 1) pe_int (fun _ _ => rfl))) (pe_one (pe_chain3 op_lt op_lt op_lt (pe_ix (ixT K) (pv 1) pe_int (fun _ _ => rfl)) (pe_ix (ixT K) (pv 0) pe_int (fun _ _ => rfl)) (pe_ix (ixT K) (pv 1) pe_int (fun _ _ => rfl)) (pe_ix (ixT K) (pv 0) pe_int (fun _ _ => rfl))))))), ?_⟩
    have l1 : ∀ H1, Ex H H1 → Ev (tOp (rIxT K) (tVar 0) (tC (.int 0))) [some (V.ref x), some (.ref y)] H1 (.int p.1) := fun H1 e => ev_p1 (ev_var rfl) ev_c (hp.mono e)
    have l2 : ∀ H1, Ex H H1 → Ev (tOp (rIxT K) (tVar 0) (tC (.int 1))) [some (V.ref x), some (.ref y)] H1 (.int p.2) := fun H1 e => ev_p2 (ev_var rfl) ev_c (hp.mono e)
    have o1 : ∀ H1, Ex H H1 → Ev (tOp (rIxT K) (tVar 1) (tC (.int 0))) [some (V.ref x), some (.ref y)] H1 (.int r.1) := fun H1 e => ev_p1 (ev_var rfl) ev_c (hq.mono e)
    have o2 : ∀ H1, Ex H H1 → Ev (tOp (rIxT K) (tVar 1) (tC (.int 1))) [some (V.ref x), some (.ref y)] H1 (.int r.2) := fun H1 e => ev_p2 (ev_var rfl) ev_c (hq.mono e)
    have e0 := Ex.refl H
    exact s_ret (ev_orV (ev_chain3 (l1 H e0) (o1 H e0) rv_I0 (l2 H e0) rv_I0 (o2 H e0) rv_I0) fun _ => ev_chain3 (o1 H e0) (l1 H e0) rv_I0 (o2 H e0) rv_I0 (l2 H e0) rv_I0) fun H1 e1 => q H1 e1
def sp_must_cut (K : Frag) (C : Addr) : Sp := fun vs H Q E => ∃ (c : Int) (a : Addr) (ls : List Ln), vs = [.int c, .ref a] ∧ LP K H a ls ∧ ls.length ≤ 100 ∧ ∀ H', Ex H H' → (IsCut c ls → Q .non H') ∧ (¬ IsCut c ls → E (.ref C) none H')
theorem ok_must_cut (T : Txt K mg) (G_is_cut : FnOk P w K mg base CX0 k T.f_is_cut T.d_is_cut ["corners", "lines"] (sp_is_cut K)) : FnOk P w K mg base (L2.CX P w) (k + 1) T.f_must_cut T.d_must_cut ["corners", "lines"] (sp_must_cut K T.c_NoCut) := by
  refine T.F_must_cut.okX sc_must_cut (fun vs H Q E h => ?_) (fun cdv A outer s H vs Q E hr h => ?_)
  · obtain ⟨c, a, ls, rfl, _⟩ := h
    rfl
  · obtain ⟨c, a, ls, rfl, hL, hl, q⟩ := h
    refine ⟨_, (pss_one (ps_if (pt_not (pt_val (pe_call G_is_cut hr rfl T.m_is_cut T.F_is_cut.kp T.b_is_cut .nil pass0 (pa_cons (pv 0) (pa_cons (pv 1) pa_nil)))))
        (pss_one (ps_raise rfl (takes_of rfl rfl rfl rfl) (pmk_own PySem.F.excBase_ValueError T.x_NoCut.xn T.x_NoCut.g T.x_NoCut.kp (raises_own T.x_NoCut.bs T.x_NoCut.ty) rfl)))
        pss_nil)), ?_⟩
    refine ⟨.int c, rfl, .ref a, rfl, c, a, ls, rfl, hL, hl, fun b H1 e1 hb => ?_⟩
    refine ⟨b, rfl, ?_⟩
    cases b with
    | true => exact (q H1 e1).1 (hb.mp rfl)
    | false => exact (q H1 e1).2 fun z => Bool.false_ne_true (hb.mpr z)
end
end AT

/-! ## sides, triangles -/
namespace AT
open PySem PySem.Spec PyProof.Rows L2 Evl
def sideB (c : Int) (ls : List Ln) (i j : Int) : Bool := decide (j - i = 1) || (decide (j - i = c - 1) || decide ((i, j) ∈ ls))
def sp_is_side (K : Frag) : Sp := fun vs H Q _ => ∃ (c : Int) (a : Addr) (ls : List Ln) (i j : Int), vs = [.int c, .ref a, .int i, .int j] ∧ LP K H a ls ∧ ∀ H', Ex H H' → Q (.bl (sideB c ls i j)) H'
theorem ev_opUL {r : R2} {σ : St} {H : Hp} {ta tb : TE} {xs : List V} {y z : V} (ha : EvU ta σ H xs) (hb : Ev tb σ H y) (hr : ∀ p H1, H1 p = some (.tup xs) → Ex H H1 → RV r (.ref p) y H1 z) : Ev (tOp r ta tb) σ H z := fun H1 e Q q =>
  ha H1 e _ fun p H2 hp e2 hp2 => hb H2 (e.trans e2) _ fun H3 e3 => hr p H3 (e3 _ _ hp2) ((e.trans e2).trans e3) H3 (Ex.refl _) Q fun H4 e4 => q H4 ((e2.trans e3).trans e4)
section
variable {P : Program} {w : World} {K : Frag} {mg : Str → Option Value} {base : Heap} {k : Nat}
theorem int_inj {a b : Int} : decide (V.int a = V.int b) = decide (a = b) := decide_eq_decide.mpr ⟨fun h => by injection h, fun h => by rw [h]⟩
theorem ok_is_side (T : Txt K mg) : FnOk P w K mg base CX0 (k + 1) T.f_is_side T.d_is_side ["corners", "lines", "one", "other"] (sp_is_side K) := by
  refine T.F_is_side.ok sc_is_side (fun vs H Q E h => ?_) (fun cdv A outer s H vs Q E hr h => ?_)
  · obtain ⟨c, a, ls, i, j, rfl, _⟩ := h
    rfl
  · obtain ⟨c, a, ls, i, j, rfl, hL, q⟩ := h
    refine ⟨_, (pss_one (ps_ret (pe_or (pe_cmpR op_eq (pe_op op_sub (pv 3) (pv 2)) pe_int (nomark _)) (pe_or (pe_cmpR op_eq (pe_op op_sub (pv 3) (pv 2)) (pe_op op_sub (pv 0) pe_int) (nomark _)) (pe_one (pe_cmpR (inDK K hr.units65) (pe_tup (pa_cons (pv 2) (pa_cons (pv 3) pa_nil))) (pv 1) rfl)))))), ?_⟩
    refine s_ret (ev_orV (ev_op (ev_op (ev_var rfl) (ev_var rfl) rv_I0) ev_c (rv_eq rfl)) fun _ => ev_orV (ev_op (ev_op (ev_var rfl) (ev_var rfl) rv_I0) (ev_op (ev_var rfl) ev_c rv_I0) (rv_eq rfl)) fun _ => ev_opUL (eu_tup (ea_cons (ev_var rfl) (ea_cons (ev_var rfl) ea_nil)) (by show 2 ≤ 100000; decide)) (ev_var (v := .ref a) rfl) fun p H1 hp e1 => rv_inP (p := (i, j)) (st_of hp) (hL.mono e1)) fun H1 e1 => ?_
    rw [int_inj, int_inj]
    exact q H1 e1
end
/-! ### triples -/
abbrev Tr := Nat × Nat × Nat
def trV (t : Tr) : List V := [.int (t.1 : Int), .int (t.2.1 : Int), .int (t.2.2 : Int)]
def OLT (H0 H : Hp) (p : Addr) (ts : List Tr) : Prop := H0 p = none ∧ ∃ as : List Addr, H p = some (.lst (as.map V.ref)) ∧ Paired (fun x t => H x = some (.tup (trV t))) as ts
theorem OLT.mono {H0 H H1 : Hp} {p : Addr} {ts : List Tr} (e : Ex H H1) (h : OLT H0 H p ts) : OLT H0 H1 p ts := by
  obtain ⟨h0, as, h1, h2⟩ := h
  exact ⟨h0, as, e _ _ h1, paired_mono h2 fun _ _ z => e _ _ z⟩
theorem OLT.back {H0 H H1 : Hp} {p : Addr} {ts : List Tr} (e : Ex H0 H1) (h : OLT H1 H p ts) : OLT H0 H p ts := ⟨fresh_back e h.1, h.2⟩
theorem OLT.push {H0 H : Hp} {p : Addr} {ts : List Tr} {t : Tr} (h : OLT H0 H p ts) : ∃ vs : List V, H p = some (.lst vs) ∧ vs.length = ts.length ∧ ∀ H1 x, Ex H H1 → H1 x = some (.tup (trV t)) → OLT H0 (upd H1 p (.lst (vs ++ [.ref x]))) p (ts ++ [t]) := by
  obtain ⟨h0, as, h1, h2⟩ := h
  refine ⟨_, h1, by rw [List.length_map, h2.length], fun H1 x e hx => ⟨h0, as ++ [x], by rw [upd_same, List.map_append]; rfl, ?_⟩⟩
  have h3 : Paired (fun x t => H1 x = some (.tup (trV t))) (as ++ [x]) (ts ++ [t]) := paired_append (paired_mono h2 fun _ _ z => e _ _ z) (.cons hx .nil)
  refine paired_mono h3 fun y u hy => ?_
  rw [upd_ne]
  · exact hy
  · intro z
    subst z
    rw [e _ _ h1] at hy
    cases hy
def triB (n : Nat) (ls : List Ln) (a b c : Nat) : Bool := sideB (n : Int) ls a b && (sideB (n : Int) ls b c && sideB (n : Int) ls a c)
def tri1 (n : Nat) (ls : List Ln) (a b m : Nat) : List Tr := ((List.range' (b + 1) m).filter fun c => triB n ls a b c).map fun c => (a, b, c)
def tri2 (n : Nat) (ls : List Ln) (a m : Nat) : List Tr := (List.range' (a + 1) m).flatMap fun b => tri1 n ls a b (n - (b + 1))
def tri3 (n : Nat) (ls : List Ln) (m : Nat) : List Tr := (List.range m).flatMap fun a => tri2 n ls a (n - (a + 1))
def tris (n : Nat) (ls : List Ln) : List Tr := tri3 n ls n
theorem flat_lenT {α β : Type} {g : α → List β} {c : Nat} : ∀ l : List α, (∀ x, x ∈ l → (g x).length ≤ c) → (l.flatMap g).length ≤ l.length * c
  | [], _ => by simp
  | a :: r, h => by
    have h1 := h a List.mem_cons_self
    have h2 := flat_lenT r fun x hx => h x (List.mem_cons_of_mem _ hx)
    rw [List.flatMap_cons, List.length_append, List.length_cons, Nat.add_mul]
    omega
theorem tri1_len {n : Nat} {ls : List Ln} {a b m : Nat} : (tri1 n ls a b m).length ≤ m := by
  unfold tri1
  rw [List.length_map]
  exact Nat.le_trans (List.length_filter_le _ _) (by rw [List.length_range']; exact Nat.le_refl _)
theorem tri2_len {n : Nat} {ls : List Ln} {a m : Nat} : (tri2 n ls a m).length ≤ m * n := by
  unfold tri2
  refine Nat.le_trans (flat_lenT (c := n) _ fun b _ => Nat.le_trans tri1_len (by omega)) ?_
  rw [List.length_range']
  exact Nat.le_refl _
theorem tri3_len {n : Nat} {ls : List Ln} {m : Nat} (h : m ≤ n) : (tri3 n ls m).length ≤ m * (n * n) := by
  unfold tri3
  refine Nat.le_trans (flat_lenT (c := n * n) _ fun a _ => Nat.le_trans tri2_len (Nat.mul_le_mul_right n (by omega))) ?_
  rw [List.length_range]
  exact Nat.le_refl _
theorem tri1_succ {n : Nat} {ls : List Ln} {a b m : Nat} : tri1 n ls a b (m + 1) = tri1 n ls a b m ++ if triB n ls a b (b + 1 + m) = true then [(a, b, b + 1 + m)] else [] := by
  unfold tri1
  rw [List.range'_1_concat, List.filter_append, List.map_append, List.filter_cons]
  split <;> rfl
theorem tri2_succ {n : Nat} {ls : List Ln} {a m : Nat} : tri2 n ls a (m + 1) = tri2 n ls a m ++ tri1 n ls a (a + 1 + m) (n - (a + 1 + m + 1)) := by
  unfold tri2
  rw [List.range'_1_concat, List.flatMap_append]
  simp
theorem tri3_succ {n : Nat} {ls : List Ln} {m : Nat} : tri3 n ls (m + 1) = tri3 n ls m ++ tri2 n ls m (n - (m + 1)) := by
  unfold tri3
  rw [List.range_succ, List.flatMap_append]
  simp
end AT

/-! ## triangles -/
namespace AT
open PySem PySem.Spec PyProof.Rows L2 Evl
def sp_triangles (K : Frag) : Sp := fun vs H Q _ => ∃ (n : Nat) (a : Addr) (ls : List Ln), vs = [.int (n : Int), .ref a] ∧ LP K H a ls ∧ n ≤ 20 ∧ ∀ H' p, Ex H H' → OLT H H' p (tris n ls) → Q (.ref p) H'
section
variable {P : Program} {w : World} {K : Frag} {mg : Str → Option Value} {base : Heap} {k : Nat}
theorem ok_triangles (T : Txt K mg) (G_is_side : FnOk P w K mg base CX0 k T.f_is_side T.d_is_side ["corners", "lines", "one", "other"] (sp_is_side K)) : FnOk P w K mg base CX0 (k + 1) T.f_triangles T.d_triangles ["corners", "lines"] (sp_triangles K) := by
  refine T.F_triangles.ok sc_triangles (fun vs H Q E h => ?_) (fun cdv A outer s H vs Q E hr h => ?_)
  · obtain ⟨n, a, ls, rfl, _⟩ := h
    rfl
  · obtain ⟨n, a, ls, rfl, hL, hn, q⟩ := h
    refine ⟨_, (pss_cons (ps_set (i := 2) sc_triangles.nd rfl (.inl rfl) (pe_lst pa_nil))
      (pss_cons (ps_for PassesOwn.never rfl (pi_range1 rfl T.b_range (pa_cons (pv 0) pa_nil)) (pg_name (i := 3) sc_triangles.nd rfl (.inl rfl))
        (pss_one (ps_for PassesOwn.never rfl (pi_range2 rfl T.b_range (pa_cons (pe_op op_add (pv 3) pe_int) (pa_cons (pv 0) pa_nil))) (pg_name (i := 4) sc_triangles.nd rfl (.inl rfl))
        (pss_one (ps_for PassesOwn.never rfl (pi_range2 rfl T.b_range (pa_cons (pe_op op_add (pv 4) pe_int) (pa_cons (pv 0) pa_nil))) (pg_name (i := 5) sc_triangles.nd rfl (.inl rfl))
        (pss_one (ps_if (PW.pt (pw_and (pt_val (pe_call G_is_side hr rfl T.m_is_side T.F_is_side.kp T.b_is_side .nil pass0 (pa_cons (pv 0) (pa_cons (pv 1) (pa_cons (pv 3) (pa_cons (pv 4) pa_nil)))))) (pw_and (pt_val (pe_call G_is_side hr rfl T.m_is_side T.F_is_side.kp T.b_is_side .nil pass0 (pa_cons (pv 0) (pa_cons (pv 1) (pa_cons (pv 4) (pa_cons (pv 5) pa_nil)))))) (pw_and1 (pt_val (pe_call G_is_side hr rfl T.m_is_side T.F_is_side.kp T.b_is_side .nil pass0 (pa_cons (pv 0) (pa_cons (pv 1) (pa_cons (pv 3) (pa_cons (pv 5) pa_nil))))))))))
        (pss_one (ps_expr (bmK K PySem.F.plainAttrs_list PySem.F.slot_list_append PySem.F.type_list_append mt_append (pv 2) (pa_cons (pe_tup (pa_cons (pv 3) (pa_cons (pv 4) (pa_cons (pv 5) pa_nil)))) pa_nil))))
        pss_nil)))))))
      (pss_one (ps_ret (pv 2))))), ?_⟩
    refine q_asgL (xs := []) (el_lst ea_nil (by simp)) fun p H1 hp e1 hp1 => ?_
    refine q_forR1 (n := (n : Int)) (ea_cons (ev_var rfl) ea_nil) (by omega) (fun i σ' H' => ∃ x3 x4 x5, σ' = [some (.int (n : Int)), some (.ref a), some (.ref p), x3, x4, x5] ∧ Ex H H' ∧ OLT H H' p (tri3 n ls i)) (fun H2 e2 => ⟨_, _, _, rfl, e1.trans e2, hp, [], e2 _ _ hp1, .nil⟩) (fun i σ' H' hi hP => ?_) (fun σ' H' hP => ?_)
    · obtain ⟨x3, x4, x5, rfl, eH, hO⟩ := hP
      have hin : i < n := by omega
      have hl3 := tri3_len (ls := ls) (n := n) (m := i) (by omega)
      have hl3' : i * (n * n) ≤ 20 * 400 := Nat.mul_le_mul (by omega) (Nat.mul_le_mul hn hn)
      refine s_forR2 (lo := (i : Int) + 1) (n := (n : Int)) (ea_cons (ev_op (ev_var rfl) ev_c rv_I0) (ea_cons (ev_var rfl) ea_nil)) (by omega) (fun t σ' H' => ∃ x4 x5, σ' = [some (.int (n : Int)), some (.ref a), some (.ref p), some (.int (i : Int)), x4, x5] ∧ Ex H H' ∧ OLT H H' p (tri3 n ls i ++ tri2 n ls i t)) (fun H2 e2 => ⟨_, _, rfl, eH.trans e2, by
        have : tri2 n ls i 0 = [] := rfl
        rw [this, List.append_nil]
        exact hO.mono e2⟩) (fun t σ' H2 ht hP => ?_) (fun σ' H2 hP => ?_)
      · obtain ⟨x4, x5, rfl, e2, hO2⟩ := hP
        have eb : (i : Int) + 1 + (t : Int) = ((i + 1 + t : Nat) : Int) := by omega
        rw [eb]
        have hbn : i + 1 + t < n := by omega
        have hl2 := tri2_len (ls := ls) (n := n) (a := i) (m := t)
        have hl2' : t * n ≤ 20 * 20 := Nat.mul_le_mul (by omega) hn
        refine s_forR2 (lo := ((i + 1 + t : Nat) : Int) + 1) (n := (n : Int)) (ea_cons (ev_op (ev_var rfl) ev_c rv_I0) (ea_cons (ev_var rfl) ea_nil)) (by omega) (fun u σ' H' => ∃ x5, σ' = [some (.int (n : Int)), some (.ref a), some (.ref p), some (.int (i : Int)), some (.int ((i + 1 + t : Nat) : Int)), x5] ∧ Ex H H' ∧ OLT H H' p (tri3 n ls i ++ tri2 n ls i t ++ tri1 n ls i (i + 1 + t) u)) (fun H3 e3 => ⟨_, rfl, e2.trans e3, by
          have : tri1 n ls i (i + 1 + t) 0 = [] := rfl
          rw [this, List.append_nil]
          exact hO2.mono e3⟩) (fun u σ' H3 hu hP => ?_) (fun σ' H3 hP => ?_)
        · obtain ⟨x5, rfl, e3, hO3⟩ := hP
          have ec : ((i + 1 + t : Nat) : Int) + 1 + (u : Int) = ((i + 1 + t + 1 + u : Nat) : Int) := by omega
          rw [ec]
          have hl1 := tri1_len (ls := ls) (n := n) (a := i) (b := i + 1 + t) (m := u)
          have hside : ∀ (x y : Nat) (jx jy : Nat) (H4 : Hp), Ex H3 H4 → [some (V.int (n : Int)), some (.ref a), some (.ref p), some (.int (i : Int)), some (.int ((i + 1 + t : Nat) : Int)), some (.int ((i + 1 + t + 1 + u : Nat) : Int))][jx]? = some (some (.int (x : Int))) → [some (V.int (n : Int)), some (.ref a), some (.ref p), some (.int (i : Int)), some (.int ((i + 1 + t : Nat) : Int)), some (.int ((i + 1 + t + 1 + u : Nat) : Int))][jy]? = some (some (.int (y : Int))) →
              Ev (tCall (sp_is_side K) [] E0 (tCons (tVar 0) (tCons (tVar 1) (tCons (tVar jx) (tCons (tVar jy) tNil))))) [some (V.int (n : Int)), some (.ref a), some (.ref p), some (.int (i : Int)), some (.int ((i + 1 + t : Nat) : Int)), some (.int ((i + 1 + t + 1 + u : Nat) : Int))] H4 (.bl (sideB (n : Int) ls x y)) := fun x y jx jy H4 e4 h1 h2 =>
            ev_call (ea_cons (ev_var (v := .int (n : Int)) (i := 0) rfl) (ea_cons (ev_var (v := .ref a) (i := 1) rfl) (ea_cons (ev_var h1) (ea_cons (ev_var h2) ea_nil)))) fun G1 g1 Q' q' E' => ⟨_, a, ls, _, _, rfl, hL.mono ((e3.trans e4).trans g1), q'⟩
          refine s_when (b := triB n ls i (i + 1 + t) (i + 1 + t + 1 + u)) (et_and (et_test (hside _ _ 3 4 H3 (Ex.refl _) rfl rfl)) fun _ => et_and (et_test (hside _ _ 4 5 H3 (Ex.refl _) rfl rfl)) fun _ => et_test (hside _ _ 3 5 H3 (Ex.refl _) rfl rfl)) (fun hb H4 e4 => ?_) (fun hb H4 e4 => ?_)
          · obtain ⟨vs, hv1, hv2, hv3⟩ := (hO3.mono e4).push (t := (i, i + 1 + t, i + 1 + t + 1 + u))
            refine s_appU hv1 (ev_var rfl) (eu_tup (ea_cons (ev_var (v := .int (i : Int)) (i := 3) rfl) (ea_cons (ev_var (v := .int ((i + 1 + t : Nat) : Int)) (i := 4) rfl) (ea_cons (ev_var (v := .int ((i + 1 + t + 1 + u : Nat) : Int)) (i := 5) rfl) ea_nil))) (by show 3 ≤ 100000; decide)) (by rw [hv2, List.length_append, List.length_append]; omega) fun x H5 hx e5 hx5 => ⟨_, rfl, Ex.mut ((e3.trans e4).trans e5) hO.1, ?_⟩
            rw [tri1_succ, if_pos hb, ← List.append_assoc]
            exact hv3 H5 x e5 hx5
          · refine ⟨_, rfl, e3.trans e4, ?_⟩
            rw [tri1_succ, if_neg (by rw [hb]; decide), List.append_nil]
            exact hO3.mono e4
        · obtain ⟨x5, rfl, e3, hO3⟩ := hP
          refine ⟨_, _, rfl, e3, ?_⟩
          rw [tri2_succ, ← List.append_assoc]
          have : ((n : Int) - (((i + 1 + t : Nat) : Int) + 1)).toNat = n - (i + 1 + t + 1) := by omega
          rw [this] at hO3
          exact hO3
      · obtain ⟨x4, x5, rfl, e2, hO2⟩ := hP
        refine ⟨_, _, _, rfl, e2, ?_⟩
        rw [tri3_succ]
        have : ((n : Int) - ((i : Int) + 1)).toNat = n - (i + 1) := by omega
        rw [this] at hO2
        exact hO2
    · obtain ⟨x3, x4, x5, rfl, eH, hO⟩ := hP
      exact s_ret (ev_var rfl) fun H2 e2 => q H2 p (eH.trans e2) (hO.mono e2)
end
end AT

/-! ## the law's own triangles -/
namespace AT
open PySem PySem.Spec PyProof.Rows L2 Evl
section
variable {P : Program} {w : World} {K : Frag} {mg : Str → Option Value} {base : Heap} {k : Nat}
theorem er_some3 {σ : St} {H : Hp} {t1 t2 t3 : TE} {p1 p2 p3 : Ln} (h1 : EvU t1 σ H [.int p1.1, .int p1.2]) (h2 : EvU t2 σ H [.int p2.1, .int p2.2]) (h3 : EvU t3 σ H [.int p3.1, .int p3.2]) : Er (tLst (tCons t1 (tCons t2 (tCons t3 tNil)))) σ H (RLP K [p1, p2, p3]) := fun H1 e Q q =>
  h1 H1 e _ fun x H2 hx e2 hx2 => h2 H2 (e.trans e2) _ fun y H3 hy e3 hy3 => h3 H3 ((e.trans e2).trans e3) _ fun z H4 hz e4 hz4 => ⟨by show 3 ≤ sizeLine; decide, fun p hp => by
    have en : Ex H4 (upd H4 p (.lst [.ref x, .ref y, .ref z])) := Ex.new hp
    refine q _ _ (((e2.trans e3).trans e4).trans en) ⟨p, rfl, fresh_back ((e2.trans e3).trans e4) hp, [x, y, z], by rw [upd_same]; rfl, .cons ?_ (.cons ?_ (.cons ?_ .nil))⟩
    · exact st_of (((e3.trans e4).trans en) _ _ hx2)
    · exact st_of ((e4.trans en) _ _ hy3)
    · exact st_of (en _ _ hz4)⟩
theorem side_law (c : Int) (ls : List Ln) (p : Ln) : ((decide (p.2 - p.1 = 1) || decide (p.2 - p.1 = c - 1)) || decide (p ∈ ls)) = sideB c ls p.1 p.2 := by
  unfold sideB
  rw [Bool.or_assoc]
theorem three_given (f : Nat → Bool) (v : Nat → V) : decide (V.int ((given 3 f v).length : Int) = V.int 3) = (f 0 && (f 1 && f 2)) := by
  unfold given
  rw [List.length_map]
  show decide (V.int (([0, 1, 2].filter f).length : Int) = V.int 3) = _
  cases h0 : f 0 <;> cases h1 : f 1 <;> cases h2 : f 2 <;> simp [List.filter_cons, h0, h1, h2]
end
end AT

/-! ## the form of a cut -/
namespace AT
open PySem PySem.Spec PyProof.Rows L2 Evl
/-- what is no list of n ints stays -/
def Kp (n : Nat) (H H1 : Hp) : Prop := ∀ (y : Addr) (o : HO), H y = some o → (∀ xs : List Int, xs.length = n → o ≠ .lst (xs.map V.int)) → H1 y = some o
theorem Kp.of {n : Nat} {H H1 : Hp} (e : Ex H H1) : Kp n H H1 := fun y o h _ => e y o h
theorem Kp.trans {n : Nat} {H H1 H2 : Hp} (a : Kp n H H1) (b : Kp n H1 H2) : Kp n H H2 := fun y o h ho => b y o (a y o h ho) ho
section
variable {K : Frag} {σ : St} {H H0 : Hp} {te ti tj tv : TE} {p : Addr} {D : Ends} {tz : TS}
theorem s_setFmK {n i j : Nat} {f : Nat → Nat → Int} {w : Int} (h : OLLI H0 H p (Fm n f)) (e0 : Ex H0 H) (hin : i < n) (hjn : j < n) (he : Ev te σ H (.int w)) (ho : Ev tv σ H (.ref p)) (hi : Ev ti σ H (.int (i : Int))) (hj' : Ev tj σ H (.int (j : Int)))
    (k : ∀ H1, Ex H0 H1 → Kp n H H1 → OLLI H0 H1 p (Fm n (setF f i j w)) → D.nx σ H1) : tAsg te (gSub (tOp (rIxL K) tv ti) tj rSetL) D σ H := by
  obtain ⟨as, x, h1, h2, h3, h4, h5⟩ := h.store (j := j) (w := w) (fm_get hin)
  refine s_setL (l := x) (xs := ((List.range n).map (f i)).map V.int) (j := j) h4 he (ev_op ho hi (rv_ixL (sq_of h1) (atI_n (by rw [List.getElem?_map, h2]; rfl)))) hj' (by simpa using hjn) fun H1 e1 => ?_
  have h6 := h5 H1 e1
  rw [setF_fm hin hjn] at h6
  refine k _ (Ex.mut (e0.trans e1) h3) (fun y o hy hno => ?_) h6
  rw [upd_ne]
  · exact e1 _ _ hy
  · intro z
    subst z
    rw [h4] at hy
    injection hy with hy
    exact hno ((List.range n).map (f i)) (by simp) hy.symm
theorem q_setFmK {n i j : Nat} {f : Nat → Nat → Int} {w : Int} (h : OLLI H0 H p (Fm n f)) (e0 : Ex H0 H) (hin : i < n) (hjn : j < n) (he : Ev te σ H (.int w)) (ho : Ev tv σ H (.ref p)) (hi : Ev ti σ H (.int (i : Int))) (hj' : Ev tj σ H (.int (j : Int)))
    (k : ∀ H1, Ex H0 H1 → Kp n H H1 → OLLI H0 H1 p (Fm n (setF f i j w)) → tz D σ H1) : tSeq (tAsg te (gSub (tOp (rIxL K) tv ti) tj rSetL)) tz D σ H :=
  s_setFmK (D := { D with nx := tz D }) h e0 hin hjn he ho hi hj' k
end
/-- one arrow from p's place to q's, where both are lines -/
def pairStep (ls : List Ln) (f : Nat → Nat → Int) (pq : Ln × Ln) : Nat → Nat → Int :=
  if pq.1 ∈ ls ∧ pq.2 ∈ ls then setF (setF f (ls.idxOf pq.1) (ls.idxOf pq.2) (f (ls.idxOf pq.1) (ls.idxOf pq.2) + 1)) (ls.idxOf pq.2) (ls.idxOf pq.1) (setF f (ls.idxOf pq.1) (ls.idxOf pq.2) (f (ls.idxOf pq.1) (ls.idxOf pq.2) + 1) (ls.idxOf pq.2) (ls.idxOf pq.1) - 1) else f
def sidesOf (t : Tr) : List Ln := [((t.1 : Int), (t.2.1 : Int)), ((t.2.1 : Int), (t.2.2 : Int)), ((t.1 : Int), (t.2.2 : Int))]
def triPairs (t : Tr) : List (Ln × Ln) := [(lnD (sidesOf t) 0, lnD (sidesOf t) 1), (lnD (sidesOf t) 1, lnD (sidesOf t) 2), (lnD (sidesOf t) 2, lnD (sidesOf t) 0)]
def triStep (ls : List Ln) (f : Nat → Nat → Int) (t : Tr) : Nat → Nat → Int := (triPairs t).foldl (pairStep ls) f
def formF (n : Nat) (ls : List Ln) : Nat → Nat → Int := (tris n ls).foldl (triStep ls) fun _ _ => 0
def sp_form_by (K : Frag) : Sp := fun vs H Q _ => ∃ (n : Nat) (a : Addr) (ls : List Ln), vs = [.int (n : Int), .ref a] ∧ LP K H a ls ∧ n ≤ 20 ∧ 1 ≤ ls.length ∧ ls.length ≤ 20 ∧ ∀ H' p, Ex H H' → OLLI H H' p (Fm ls.length (formF n ls)) → Q (.ref p) H'
section
variable {P : Program} {w : World} {K : Frag} {mg : Str → Option Value} {base : Heap} {k : Nat}
/-- [[0 for .. in ls] for .. in ls] -/
theorem er_zeros {σ : St} {H : Hp} {a : Addr} {ls : List Ln} {t1 t2 : TE} {j1 j2 : Nat} {v1 v2 : List Nat} (h1 : Ev t1 σ H (.ref a)) (hL : LP K H a ls) (hl : ls.length ≤ 20)
    (hw1 : ∀ x, wipe ((wipe σ v1).set j1 (some x)) v1 = wipe σ v1) (hw2 : ∀ x y, wipe ((wipe ((wipe σ v1).set j1 (some x)) v2).set j2 (some y)) v2 = wipe ((wipe σ v1).set j1 (some x)) v2)
    (h2 : ∀ x H1, Ex H H1 → Ev t2 ((wipe σ v1).set j1 (some x)) H1 (.ref a)) :
    Er (tLc (iList K t1) (gName j1) tYes (tLc (iList K t2) (gName j2) tYes (tC (.int 0)) v2) v1) σ H (RM (Fm ls.length fun _ _ => 0)) := by
  obtain ⟨as, hA, hal⟩ := hL.len
  have := em_lcL (K := K) (te := tLc (iList K t2) (gName j2) tYes (tC (.int 0)) v2) (fun _ => (List.range ls.length).map fun _ => (0 : Int)) h1 hA (by rw [List.length_map]; omega) hw1 (fun i x H1 e1 hx => er_of_evl (by
    have := el_lcL (K := K) (te := tC (.int 0)) (t := tYes) (fun _ => true) (fun _ => .int 0) (h2 x H1 e1) (ex_l e1 hA) (by rw [List.length_map]; omega) (hw2 x) (fun i y G1 g1 hy G2 g2 Q' q' => q' G2 (Ex.refl _)) (fun i y G1 g1 hy _ => ev_c)
    rw [List.length_map, hal, given_all] at this
    exact this))
  rw [List.length_map, hal] at this
  exact this
theorem lp_kp {n : Nat} {H H1 : Hp} {m : Addr} {ms : List Addr} {ss : List Ln} (h1 : H m = some (.lst (ms.map V.ref))) (h2 : Paired (fun x p => PT K H x p) ms ss) (e : Ex H H1) : LP K H1 m ss := ⟨ms, sq_of (e _ _ h1), paired_mono h2 fun _ _ z => z.mono e⟩
end
end AT

/-! ## sum of a tuple; loops over what an expression makes; triples kept while a form's rows change -/
namespace AT
open PySem PySem.Spec PyProof.Rows L2 Evl
section
variable {X : Cx}
def rSumT (K : Frag) : List V → Hp → VK → Prop := fun vs H Q => ∃ (a : Addr) (ns : List Int), vs = [V.ref a] ∧ SqT K H a (ns.map V.int) ∧ Q (.int ns.sum) H
theorem sumTK (K : Frag) (hc : X.calm = true) (h : X.K = K := by rfl) : CallR X (.builtin "sum") (rSumT K) := by
  subst h
  intro pins s σ H vs us Q I r h
  obtain ⟨a, ns, rfl, hs, q⟩ := h
  obtain ⟨its, rv, ht, _⟩ := I.tuple hs
  rw [Vals.ref1 r]
  have hi := rv.ints
  obtain ⟨xs, e⟩ := hi.allInts.items
  have hn : numsOf (intItems xs).toList = ns := by rw [← e]; exact hi.numsOf
  rw [nums_intItems] at hn
  rw [e] at ht
  refine PySem.W.ktm_sumG (I.ok.hd hc) ht fun h' tk t' hk => ?_
  rw [preSum_eq, List.take_of_length_le (by simp), hn]
  exact ⟨.int _, H, I.kept hk, ⟨_, rfl⟩, q⟩
end
section
variable {K : Frag} {σ : St} {H H0 H1 H' : Hp} {te tl : TE} {p x : Addr} {D : Ends} {tz tu : TS} {g : TG} {R : R3}
theorem ev_sumT {ns : List Int} {a : Addr} (h : Ev te σ H (.ref a)) (hT : SqT K H a (ns.map V.int)) : Ev (tCB (rSumT K) (tCons te tNil)) σ H (.int ns.sum) := fun H1 e Q q =>
  h H1 e _ fun H2 e2 => ⟨a, ns, rfl, ex_t (e.trans e2) hT, q H2 e2⟩
theorem s_forE (h : Er tl σ H R) (k : ∀ v H1, Ex H H1 → R H H1 v → ∃ a xs, v = .ref a ∧ SqL K H1 a xs ∧ ∃ Pv : Nat → St → Hp → Prop, Pv 0 σ H1 ∧ (∀ i σ' H', i ≤ xs.length → Pv i σ' H' → SqL K H' a xs) ∧
    (∀ i x σ' H', xs[i]? = some x → Pv i σ' H' → g x σ' H' fun σ2 H2 => tu { D with nx := Pv (i + 1), ct := Pv (i + 1), bk := D.nx } σ2 H2) ∧ ∀ σ' H', Pv xs.length σ' H' → D.nx σ' H') : tFor (iList K tl) g tu D σ H :=
  h H (Ex.refl H) _ fun v H1 e r => by
    obtain ⟨a, xs, rfl, hx, Pv, h0, hl, hs, hd⟩ := k v H1 e r
    exact ⟨a, rfl, ⟨xs, hx⟩, for_list Pv h0 hl hs hd⟩
theorem q_forE (h : Er tl σ H R) (k : ∀ v H1, Ex H H1 → R H H1 v → ∃ a xs, v = .ref a ∧ SqL K H1 a xs ∧ ∃ Pv : Nat → St → Hp → Prop, Pv 0 σ H1 ∧ (∀ i σ' H', i ≤ xs.length → Pv i σ' H' → SqL K H' a xs) ∧
    (∀ i x σ' H', xs[i]? = some x → Pv i σ' H' → g x σ' H' fun σ2 H2 => tu { D with nx := Pv (i + 1), ct := Pv (i + 1), bk := tz D } σ2 H2) ∧ ∀ σ' H', Pv xs.length σ' H' → tz D σ' H') : tSeq (tFor (iList K tl) g tu) tz D σ H :=
  s_forE (D := { D with nx := tz D }) h k
/-- a new list of triples -/
def ROT (ts : List Tr) : R3 := fun H1 H2 v => ∃ p, v = .ref p ∧ OLT H1 H2 p ts
theorem mon_ROT {ts : List Tr} : Mon (ROT ts) := ⟨fun e ⟨p, h, q⟩ => ⟨p, h, q.mono e⟩, fun e ⟨p, h, q⟩ => ⟨p, h, q.back e⟩⟩
theorem er_tris {ta : TA} {E : XK} {n : Nat} {a : Addr} {ls : List Ln} (h : EvA ta σ H [.int (n : Int), .ref a]) (hL : LP K H a ls) (hn : n ≤ 20) : Er (tCall (sp_triangles K) [] E ta) σ H (ROT (tris n ls)) :=
  er_call mon_ROT h fun H1 e1 Q q E => ⟨n, a, ls, rfl, hL.mono e1, hn, fun H' p e hO => q _ H' e ⟨p, rfl, hO⟩⟩
theorem kp_lst {n : Nat} {t : Addr} {as : List Addr} (hn : 1 ≤ n) (k : Kp n H H') (h : H t = some (.lst (as.map V.ref))) : H' t = some (.lst (as.map V.ref)) := k t _ h fun xs hx e => by
  injection e with e
  have hl := congrArg List.length e
  rw [List.length_map, List.length_map] at hl
  cases as with
  | nil => simp at hl; omega
  | cons a as =>
    cases xs with
    | nil => simp at hl
    | cons x xs => simp at e
theorem kp_tup {n : Nat} {vs : List V} (k : Kp n H H') (h : H x = some (.tup vs)) : H' x = some (.tup vs) := k x _ h fun xs _ e => nomatch e
theorem OLT.kp {n : Nat} {ts : List Tr} (hn : 1 ≤ n) (h : OLT H0 H p ts) (k : Kp n H H') : OLT H0 H' p ts := by
  obtain ⟨h0, as, h1, h2⟩ := h
  exact ⟨h0, as, kp_lst hn k h1, paired_mono h2 fun _ _ z => kp_tup k z⟩
/-- a list of pairs, each an object of its own here -/
def LPH (H : Hp) (m : Addr) (ss : List Ln) : Prop := ∃ ms : List Addr, H m = some (.lst (ms.map V.ref)) ∧ Paired (fun x p => H x = some (.tup [.int p.1, .int p.2])) ms ss
theorem LPH.lp {m : Addr} {ss : List Ln} (h : LPH H m ss) : LP K H m ss := by
  obtain ⟨ms, h1, h2⟩ := h
  exact ⟨ms, sq_of h1, paired_mono h2 fun _ _ z => st_of z⟩
theorem LPH.kp {n : Nat} {m : Addr} {ss : List Ln} (hn : 1 ≤ n) (h : LPH H m ss) (k : Kp n H H') : LPH H' m ss := by
  obtain ⟨ms, h1, h2⟩ := h
  exact ⟨ms, kp_lst hn k h1, paired_mono h2 fun _ _ z => kp_tup k z⟩
theorem LPH.mono {m : Addr} {ss : List Ln} (e : Ex H H') (h : LPH H m ss) : LPH H' m ss := by
  obtain ⟨ms, h1, h2⟩ := h
  exact ⟨ms, e _ _ h1, paired_mono h2 fun _ _ z => e _ _ z⟩
def RLPH (ss : List Ln) : R3 := fun H1 H2 v => ∃ p, v = .ref p ∧ H1 p = none ∧ LPH H2 p ss
theorem er_sides3 {t1 t2 t3 : TE} {p1 p2 p3 : Ln} (h1 : EvU t1 σ H [.int p1.1, .int p1.2]) (h2 : EvU t2 σ H [.int p2.1, .int p2.2]) (h3 : EvU t3 σ H [.int p3.1, .int p3.2]) : Er (tLst (tCons t1 (tCons t2 (tCons t3 tNil)))) σ H (RLPH [p1, p2, p3]) := fun H1 e Q q =>
  h1 H1 e _ fun x H2 hx e2 hx2 => h2 H2 (e.trans e2) _ fun y H3 hy e3 hy3 => h3 H3 ((e.trans e2).trans e3) _ fun z H4 hz e4 hz4 => ⟨by show 3 ≤ sizeLine; decide, fun p hp => by
    have en : Ex H4 (upd H4 p (.lst [.ref x, .ref y, .ref z])) := Ex.new hp
    exact q _ _ (((e2.trans e3).trans e4).trans en) ⟨p, rfl, fresh_back ((e2.trans e3).trans e4) hp, [x, y, z], by rw [upd_same]; rfl, .cons (((e3.trans e4).trans en) _ _ hx2) (.cons ((e4.trans en) _ _ hy3) (.cons (en _ _ hz4) .nil))⟩⟩
theorem er_sides4 {t1 t2 t3 t4 : TE} {p1 p2 p3 p4 : Ln} (h1 : EvU t1 σ H [.int p1.1, .int p1.2]) (h2 : EvU t2 σ H [.int p2.1, .int p2.2]) (h3 : EvU t3 σ H [.int p3.1, .int p3.2]) (h4 : EvU t4 σ H [.int p4.1, .int p4.2]) : Er (tLst (tCons t1 (tCons t2 (tCons t3 (tCons t4 tNil))))) σ H (RLPH [p1, p2, p3, p4]) := fun H1 e Q q =>
  h1 H1 e _ fun x H2 hx e2 hx2 => h2 H2 (e.trans e2) _ fun y H3 hy e3 hy3 => h3 H3 ((e.trans e2).trans e3) _ fun z H4 hz e4 hz4 => h4 H4 (((e.trans e2).trans e3).trans e4) _ fun u H5 hu e5 hu5 => ⟨by show 4 ≤ sizeLine; decide, fun p hp => by
    have en : Ex H5 (upd H5 p (.lst [.ref x, .ref y, .ref z, .ref u])) := Ex.new hp
    exact q _ _ ((((e2.trans e3).trans e4).trans e5).trans en) ⟨p, rfl, fresh_back (((e2.trans e3).trans e4).trans e5) hp, [x, y, z, u], by rw [upd_same]; rfl, .cons ((((e3.trans e4).trans e5).trans en) _ _ hx2) (.cons (((e4.trans e5).trans en) _ _ hy3) (.cons ((e5.trans en) _ _ hz4) (.cons (en _ _ hu5) .nil)))⟩⟩
theorem er_sides1 {t1 : TE} {p1 : Ln} (h1 : EvU t1 σ H [.int p1.1, .int p1.2]) : Er (tLst (tCons t1 tNil)) σ H (RLPH [p1]) := fun H1 e Q q =>
  h1 H1 e _ fun x H2 hx e2 hx2 => ⟨by show 1 ≤ sizeLine; decide, fun p hp => by
    have en : Ex H2 (upd H2 p (.lst [.ref x])) := Ex.new hp
    exact q _ _ (e2.trans en) ⟨p, rfl, fresh_back e2 hp, [x], by rw [upd_same]; rfl, .cons (en _ _ hx2) .nil⟩⟩
theorem er_sides2 {t1 t2 : TE} {p1 p2 : Ln} (h1 : EvU t1 σ H [.int p1.1, .int p1.2]) (h2 : EvU t2 σ H [.int p2.1, .int p2.2]) : Er (tLst (tCons t1 (tCons t2 tNil))) σ H (RLPH [p1, p2]) := fun H1 e Q q =>
  h1 H1 e _ fun x H2 hx e2 hx2 => h2 H2 (e.trans e2) _ fun y H3 hy e3 hy3 => ⟨by show 2 ≤ sizeLine; decide, fun p hp => by
    have en : Ex H3 (upd H3 p (.lst [.ref x, .ref y])) := Ex.new hp
    exact q _ _ ((e2.trans e3).trans en) ⟨p, rfl, fresh_back (e2.trans e3) hp, [x, y], by rw [upd_same]; rfl, .cons ((e3.trans en) _ _ hx2) (.cons (en _ _ hy3) .nil)⟩⟩
theorem er_catP {ta tb : TE} {t : Addr} {ss ss' : List Ln} (ha : Ev ta σ H (.ref t)) (ht : LPH H t ss) (hb : Er tb σ H (RLPH ss')) (hl : ss.length + ss'.length ≤ 10000) : Er (tOp rCat ta tb) σ H (RLPH (ss ++ ss')) := fun H1 e Q q =>
  ha H1 e _ fun H2 e2 => hb H2 (e.trans e2) _ fun v H3 e3 ⟨b, hv, hb0, bs, hb1, hb2⟩ => by
    subst hv
    obtain ⟨as, h1, h2⟩ := ht
    refine ⟨t, b, _, _, rfl, rfl, ((e.trans e2).trans e3) _ _ h1, hb1, ?_, fun z hz => ?_⟩
    · rw [List.length_map, List.length_map, h2.length, hb2.length]
      exact Nat.le_trans hl (by decide)
    · have gz := Ex.new (o := .lst (as.map V.ref ++ bs.map V.ref)) hz
      exact q _ _ ((e2.trans e3).trans gz) ⟨z, rfl, fresh_back (e2.trans e3) hz, as ++ bs, by rw [upd_same, List.map_append], paired_append (paired_mono h2 fun _ _ w => (((e.trans e2).trans e3).trans gz) _ _ w) (paired_mono hb2 fun _ _ w => gz _ _ w)⟩
theorem take_fold {α β : Type} {g : β → α → β} {f : β} {l : List α} {i : Nat} {x : α} (h : l[i]? = some x) : (l.take (i + 1)).foldl g f = g ((l.take i).foldl g f) x := by
  rw [List.take_add_one, h, List.foldl_append]
  rfl
end
end AT

/-! ## form_by, and the law's own -/
namespace AT
open PySem PySem.Spec PyProof.Rows L2 Evl
theorem idx_lt {ls : List Ln} {p : Ln} (h : p ∈ ls) : ls.idxOf p < ls.length := List.idxOf_lt_length_iff.mpr h
theorem triPairs_at (t : Tr) {j : Nat} (hj : j < 3) : (triPairs t)[j]? = some (lnD (sidesOf t) j, lnD (sidesOf t) ((j + 1) % 3)) := by
  rcases (show j = 0 ∨ j = 1 ∨ j = 2 by omega) with rfl | rfl | rfl <;> rfl
theorem fold_pairs (ls : List Ln) (f : Nat → Nat → Int) (t : Tr) : ((triPairs t).take 3).foldl (pairStep ls) f = triStep ls f t := rfl
theorem pair_in {ls : List Ln} {f : Nat → Nat → Int} {p q : Ln} (h : (decide (p ∈ ls) && decide (q ∈ ls)) = true) :
    pairStep ls f (p, q) = setF (setF f (ls.idxOf p) (ls.idxOf q) (f (ls.idxOf p) (ls.idxOf q) + 1)) (ls.idxOf q) (ls.idxOf p) (setF f (ls.idxOf p) (ls.idxOf q) (f (ls.idxOf p) (ls.idxOf q) + 1) (ls.idxOf q) (ls.idxOf p) - 1) := by
  rw [Bool.and_eq_true, decide_eq_true_eq, decide_eq_true_eq] at h
  exact if_pos h
theorem pair_out {ls : List Ln} {f : Nat → Nat → Int} {p q : Ln} (h : (decide (p ∈ ls) && decide (q ∈ ls)) = false) : pairStep ls f (p, q) = f := if_neg fun z => by
  simp [z.1, z.2] at h
section
variable {P : Program} {w : World} {K : Frag} {mg : Str → Option Value} {base : Heap} {k : Nat}
theorem ok_form_by (T : Txt K mg) (G_triangles : FnOk P w K mg base CX0 k T.f_triangles T.d_triangles ["corners", "lines"] (sp_triangles K)) : FnOk P w K mg base CX0 (k + 1) T.f_form_by T.d_form_by ["corners", "lines"] (sp_form_by K) := by
  refine T.F_form_by.ok sc_form_by (fun vs H Q E h => ?_) (fun cdv A outer s H vs Q E hr h => ?_)
  · obtain ⟨n, a, ls, rfl, _⟩ := h
    rfl
  · obtain ⟨n, a, ls, rfl, hL, hn, hl1, hl2, q⟩ := h
    refine ⟨_, (pss_cons (ps_setLc (i := 2) (own := [("line", 12)]) rfl sc_form_by.nd rfl rfl (sw_true rfl rfl rfl (by decide +kernel)) (pi_listK K (pv 1)) (blkOk_by (own := [("line", 12)]) (N := N_form_by) (sc := defScope s_form_by) (by decide +kernel)) (fun _ _ _ _ _ => (pg_name (i := 12) sc_form_by.nd rfl (.inl rfl))) (fun _ _ _ _ _ => pts_nil) (fun _ _ _ _ _ => (pe_lc (own := [("other", 9)]) rfl sc_form_by.nd (pi_listK K (pv 1)) (blkOk_by (own := [("other", 9)]) (N := N_form_by) (sc := relS { kind := .function, names := [(PySem.Str.ofString ".0", PySem.NameKind.local), (PySem.Str.ofString "line", PySem.NameKind.local), (PySem.Str.ofString "lines", PySem.NameKind.free)], isGenerator := false, isCoroutine := false, more := [] } (defScope s_form_by)) (by decide +kernel)) (fun _ _ _ _ _ => (pg_name (i := 9) sc_form_by.nd rfl (.inl rfl))) (fun _ _ _ _ _ => pts_nil) (fun _ _ _ _ _ => pe_int))))
      (pss_cons (ps_for PassesOwn.never rfl (pi_listK K (pe_call G_triangles hr rfl T.m_triangles T.F_triangles.kp T.b_triangles .nil pass0 (pa_cons (pv 0) (pa_cons (pv 1) pa_nil)))) (pg_tupK K (n := 3) rfl (pgs_cons (pg_name (i := 3) sc_form_by.nd rfl (.inl rfl)) (pgs_cons (pg_name (i := 4) sc_form_by.nd rfl (.inl rfl)) (pgs_cons (pg_name (i := 5) sc_form_by.nd rfl (.inl rfl)) pgs_nil))))
        (pss_cons (ps_set (i := 6) sc_form_by.nd rfl (.inl rfl) (pe_lst (pa_cons (pe_tup (pa_cons (pv 3) (pa_cons (pv 4) pa_nil))) (pa_cons (pe_tup (pa_cons (pv 4) (pa_cons (pv 5) pa_nil))) (pa_cons (pe_tup (pa_cons (pv 3) (pa_cons (pv 5) pa_nil))) pa_nil)))))
      (pss_one (ps_for PassesOwn.never rfl (pi_range1 rfl T.b_range (pa_cons pe_int pa_nil)) (pg_name (i := 7) sc_form_by.nd rfl (.inl rfl))
        (pss_cons (ps_set (i := 8) sc_form_by.nd rfl (.inl rfl) (pe_ix (ixL K) (pv 6) (pv 7) (fun _ _ => rfl)))
      (pss_cons (ps_set (i := 9) sc_form_by.nd rfl (.inl rfl) (pe_ix (ixL K) (pv 6) (pe_op op_modN (pe_op op_add (pv 7) pe_int) pe_int) (fun _ _ => rfl)))
      (pss_one (ps_if (PW.pt (pw_and (pt_cmpR (inDK K hr.units65) (pv 8) (pv 1) rfl) (pw_and1 (pt_cmpR (inDK K hr.units65) (pv 9) (pv 1) rfl))))
        (pss_cons (ps_set (i := 10) sc_form_by.nd rfl (.inl rfl) (bmK K PySem.F.plainAttrs_list PySem.F.slot_list_index PySem.F.type_list_index (mt_indexDK K hr.units65) (pv 1) (pa_cons (pv 8) pa_nil)))
      (pss_cons (ps_set (i := 11) sc_form_by.nd rfl (.inl rfl) (bmK K PySem.F.plainAttrs_list PySem.F.slot_list_index PySem.F.type_list_index (mt_indexDK K hr.units65) (pv 1) (pa_cons (pv 9) pa_nil)))
      (pss_cons (ps_asg (pe_op op_add (pe_ix (ixL K) (pe_ix (ixL K) (pv 2) (pv 10) (fun _ _ => rfl)) (pv 11) (fun _ _ => rfl)) pe_int) (pg_sub (pe_ix (ixL K) (pv 2) (pv 10) (fun _ _ => rfl)) (pv 11) set_list))
      (pss_one (ps_asg (pe_op op_sub (pe_ix (ixL K) (pe_ix (ixL K) (pv 2) (pv 11) (fun _ _ => rfl)) (pv 10) (fun _ _ => rfl)) pe_int) (pg_sub (pe_ix (ixL K) (pv 2) (pv 11) (fun _ _ => rfl)) (pv 10) set_list))))))
        pss_nil))))))))
      (pss_one (ps_ret (pv 2))))), ?_⟩
    refine qr_asg (er_zeros (ev_var rfl) hL hl2 (fun _ => rfl) (fun _ _ => rfl) fun x H1 e1 => ev_var rfl) fun v H1 e1 ⟨p, hv, hO⟩ => ?_
    subst hv
    refine q_forE (er_tris (ea_cons (ev_var (v := .int (n : Int)) rfl) (ea_cons (ev_var (v := .ref a) rfl) ea_nil)) (hL.mono e1) hn) fun v H2 e2 ⟨t, hv, hT⟩ => ?_
    subst hv
    obtain ⟨as, ht1, ht2⟩ := id hT.2
    have hlen := ht2.length
    refine ⟨t, as.map V.ref, rfl, sq_of ht1, fun i σ' H' => ∃ x3 x4 x5 x6 x7 x8 x9 x10 x11, σ' = [some (.int (n : Int)), some (.ref a), some (.ref p), x3, x4, x5, x6, x7, x8, x9, x10, x11, none] ∧ Ex H H' ∧ Kp ls.length H2 H' ∧ OLLI H H' p (Fm ls.length (((tris n ls).take i).foldl (triStep ls) fun _ _ => 0)), ?_, ?_, ?_, ?_⟩
    · exact ⟨_, _, _, _, _, _, _, _, _, rfl, e1.trans e2, Kp.of (Ex.refl _), hO.mono e2⟩
    · rintro i σ' H' _ ⟨x3, x4, x5, x6, x7, x8, x9, x10, x11, rfl, eH, kH, _⟩
      exact sq_of (kp_lst hl1 kH ht1)
    · rintro i x σ' H' hx ⟨x3, x4, x5, x6, x7, x8, x9, x10, x11, rfl, eH, kH, hF⟩
      rw [List.getElem?_map] at hx
      cases hy : as[i]? with
      | none => rw [hy] at hx; cases hx
      | some y =>
        rw [hy] at hx
        cases hx
        obtain ⟨tr, htr, hy2⟩ := paired_getL ht2 hy
        refine ⟨y, trV tr, rfl, st_of (kp_tup kH hy2), rfl, .int (tr.1 : Int), _, rfl, .int (tr.2.1 : Int), _, rfl, .int (tr.2.2 : Int), _, rfl, rfl, ?_⟩
        refine qr_asg (er_sides3 (p1 := lnD (sidesOf tr) 0) (p2 := lnD (sidesOf tr) 1) (p3 := lnD (sidesOf tr) 2) (eu_tup (ea_cons (ev_var rfl) (ea_cons (ev_var rfl) ea_nil)) (by show 2 ≤ 100000; decide)) (eu_tup (ea_cons (ev_var rfl) (ea_cons (ev_var rfl) ea_nil)) (by show 2 ≤ 100000; decide)) (eu_tup (ea_cons (ev_var rfl) (ea_cons (ev_var rfl) ea_nil)) (by show 2 ≤ 100000; decide))) fun v H3 e3 ⟨m, hv, hm0, hm⟩ => ?_
        subst hv
        have hm : LPH H3 m (sidesOf tr) := hm
        have hst := take_fold (g := triStep ls) (f := fun _ _ => (0 : Int)) htr
        generalize ((tris n ls).take i).foldl (triStep ls) (fun _ _ => 0) = f at hF hst
        refine s_forR1 (n := 3) (ea_cons ev_c ea_nil) (by decide) (fun j σ' H' => ∃ x7 x8 x9 x10 x11, σ' = [some (.int (n : Int)), some (.ref a), some (.ref p), some (.int (tr.1 : Int)), some (.int (tr.2.1 : Int)), some (.int (tr.2.2 : Int)), some (.ref m), x7, x8, x9, x10, x11, none] ∧ Ex H H' ∧ Kp ls.length H3 H' ∧ OLLI H H' p (Fm ls.length (((triPairs tr).take j).foldl (pairStep ls) f)))
          (fun H4 e4 => ⟨_, _, _, _, _, rfl, (eH.trans e3).trans e4, Kp.of e4, (hF.mono e3).mono e4⟩) (fun j σ' H4 hj hP => ?_) (fun σ' H4 hP => ?_)
        · obtain ⟨x7, x8, x9, x10, x11, rfl, e4, k4, hF4⟩ := hP
          have hj3 : j < 3 := by omega
          have hm4 : LP K H4 m (sidesOf tr) := (hm.kp hl1 k4).lp
          have hL4 := hL.mono e4
          obtain ⟨y1, hy1, hp1⟩ := hm4.gets (i := j) (by show j < 3; exact hj3)
          obtain ⟨y2, hy2', hp2⟩ := hm4.gets (i := (j + 1) % 3) (by show (j + 1) % 3 < 3; omega)
          have hsp := take_fold (g := pairStep ls) (f := f) (triPairs_at tr hj3)
          generalize ((triPairs tr).take j).foldl (pairStep ls) f = fj at hF4 hsp
          generalize lnD (sidesOf tr) j = p1 at *
          generalize lnD (sidesOf tr) ((j + 1) % 3) = p2 at *
          refine q_asg (ev_op (ev_var (v := .ref m) rfl) (ev_var (v := .int (j : Int)) rfl) hy1) fun H5 e5 => ?_
          refine q_asg (ev_op (ev_var (v := .ref m) rfl) (ev_cast (w := .int (((j + 1) % 3 : Nat) : Int)) (ev_mod (i := (j : Int) + 1) (j := 3) (ev_op (ev_var (v := .int (j : Int)) rfl) ev_c rv_I0) ev_c (by decide)) (by congr 1)) (fun G g => hy2' G (e5.trans g))) fun H6 e6 => ?_
          have e56 := e5.trans e6
          have q1 := hp1.mono e56
          have q2 := hp2.mono e56
          have hL6 := hL4.mono e56
          refine s_when (et_and (et_test (ev_op (ev_var (v := .ref y1) rfl) (ev_var (v := .ref a) rfl) (rv_inP q1 hL6))) fun _ => et_test (ev_op (ev_var (v := .ref y2) rfl) (ev_var (v := .ref a) rfl) (rv_inP q2 hL6))) (fun hb H7 e7 => ?_) (fun hb H7 e7 => ?_)
          · rw [pair_in hb] at hsp
            rw [Bool.and_eq_true, decide_eq_true_eq, decide_eq_true_eq] at hb
            obtain ⟨m1, m2⟩ := hb
            have i1 := idx_lt m1
            have i2 := idx_lt m2
            refine q_asg (ev_indexP (ev_var (v := .ref a) rfl) (ev_var (v := .ref y1) rfl) (hL6.mono e7) (q1.mono e7) m1) fun H8 e8 => ?_
            refine q_asg (ev_indexP (ev_var (v := .ref a) rfl) (ev_var (v := .ref y2) rfl) (hL6.mono (e7.trans e8)) (q2.mono (e7.trans e8)) m2) fun H9 e9 => ?_
            have e49 := (e56.trans e7).trans (e8.trans e9)
            have hF9 := hF4.mono e49
            generalize ls.idxOf p1 = i' at *
            generalize ls.idxOf p2 = j' at *
            refine q_setFmK hF9 (e4.trans e49) i1 i2 (ev_op (ev_fm (ev_var rfl) (ev_var rfl) (ev_var rfl) hF9.lli i1 i2) ev_c rv_I0) (ev_var rfl) (ev_var rfl) (ev_var rfl) fun G1 g1 k1 hG1 => ?_
            refine s_setFmK hG1 g1 i2 i1 (ev_op (ev_fm (ev_var rfl) (ev_var rfl) (ev_var rfl) hG1.lli i2 i1) ev_c rv_I0) (ev_var rfl) (ev_var rfl) (ev_var rfl) fun G2 g2 k2 hG2 => ?_
            exact ⟨_, _, _, _, _, rfl, g2, ((k4.trans (Kp.of e49)).trans k1).trans k2, hsp ▸ hG2⟩
          · rw [pair_out hb] at hsp
            exact ⟨_, _, _, _, _, rfl, e4.trans (e56.trans e7), k4.trans (Kp.of (e56.trans e7)), hsp ▸ hF4.mono (e56.trans e7)⟩
        · obtain ⟨x7, x8, x9, x10, x11, rfl, e4, k4, hF4⟩ := hP
          exact ⟨_, _, _, _, _, _, _, _, _, rfl, e4, (kH.trans (Kp.of e3)).trans k4, hst ▸ hF4⟩
    · rintro σ' H' ⟨x3, x4, x5, x6, x7, x8, x9, x10, x11, rfl, eH, kH, hF⟩
      rw [List.length_map, hlen, List.take_length] at hF
      exact s_ret (ev_var rfl) fun H3 e3 => q H3 p (eH.trans e3) (hF.mono e3)
end
end AT

/-! ## all cuts of a ring, gone through by Lean's kernel -/
namespace AT
open PySem PySem.Spec PyProof.Rows L2 Evl
abbrev NL := Nat × Nat
def toLn (p : NL) : Ln := ((p.1 : Int), (p.2 : Int))
def ofLn (p : Ln) : NL := (p.1.toNat, p.2.toNat)
def crN (p q : NL) : Bool := (Nat.blt p.1 q.1 && (Nat.blt q.1 p.2 && Nat.blt p.2 q.2)) || (Nat.blt q.1 p.1 && (Nat.blt p.1 q.2 && Nat.blt q.2 p.2))
def ltN (p q : NL) : Prop := p.1 < q.1 ∨ (p.1 = q.1 ∧ p.2 < q.2)
def linesN (c : Nat) : List NL := (List.range c).flatMap fun a => ((List.range c).filter fun b => Nat.blt (a + 1) b && Nat.blt (b - a) (c - 1)).map fun b => (a, b)
/-- P of all lists of k of L, none crossing, acc ahead of them -/
def chk (P : List NL → Bool) : List NL → List NL → Nat → Bool
  | _, acc, 0 => P acc.reverse
  | [], _, _ + 1 => true
  | p :: r, acc, k + 1 => chk P r acc (k + 1) && (!(acc.all fun q => !crN q p) || chk P r (p :: acc) k)
theorem chk_all {P : List NL → Bool} : ∀ {L acc : List NL} {k : Nat} {s : List NL}, chk P L acc k = true → s.Sublist L → s.length = k → (∀ q, q ∈ acc → ∀ p, p ∈ s → crN q p = false) → s.Pairwise (fun q p => crN q p = false) → P (acc.reverse ++ s) = true
  | L, acc, 0, s, h, hs, hk, _, _ => by
    have : s = [] := List.length_eq_zero_iff.mp hk
    subst this
    rw [List.append_nil]
    cases L <;> exact h
  | [], acc, k + 1, s, h, hs, hk, _, _ => by
    have : s = [] := List.sublist_nil.mp hs
    subst this
    cases hk
  | p :: r, acc, k + 1, s, h, hs, hk, ha, hp => by
    have h : (chk P r acc (k + 1) && (!(acc.all fun q => !crN q p) || chk P r (p :: acc) k)) = true := h
    rw [Bool.and_eq_true] at h
    cases hs with
    | cons _ hs => exact chk_all h.1 hs hk ha hp
    | cons_cons _ hs =>
      rename_i s'
      have hall : (acc.all fun q => !crN q p) = true := List.all_eq_true.mpr fun q hq => by rw [ha q hq p List.mem_cons_self]; rfl
      have h2 := h.2
      rw [hall] at h2
      have h2 : chk P r (p :: acc) k = true := h2
      rw [List.pairwise_cons] at hp
      have := chk_all (s := s') h2 hs (by simpa using hk) (fun q hq u hu => by
        rcases List.mem_cons.mp hq with rfl | hq
        · exact hp.1 u hu
        · exact ha q hq u (List.mem_cons_of_mem _ hu)) hp.2
      rw [List.reverse_cons, List.append_assoc] at this
      exact this
theorem ltN_irr {p : NL} : ¬ ltN p p := fun h => by rcases h with h | ⟨_, h⟩ <;> omega
theorem ltN_tr {p q r : NL} (h1 : ltN p q) (h2 : ltN q r) : ltN p r := by
  unfold ltN at *
  omega
theorem sub_sorted : ∀ {L s : List NL}, L.Pairwise ltN → s.Pairwise ltN → (∀ p, p ∈ s → p ∈ L) → s.Sublist L
  | [], s, _, _, h => by
    cases s with
    | nil => exact .slnil
    | cons p s => exact absurd (h p List.mem_cons_self) (by simp)
  | p :: r, s, hL, hs, h => by
    rw [List.pairwise_cons] at hL
    cases s with
    | nil => exact List.nil_sublist _
    | cons q s =>
      rw [List.pairwise_cons] at hs
      by_cases e : q = p
      · subst e
        refine .cons_cons _ (sub_sorted hL.2 hs.2 fun u hu => ?_)
        rcases List.mem_cons.mp (h u (List.mem_cons_of_mem _ hu)) with e | hm
        · subst e
          exact absurd (hs.1 _ hu) ltN_irr
        · exact hm
      · refine .cons _ (sub_sorted hL.2 (List.pairwise_cons.mpr hs) fun u hu => ?_)
        have hq : q ∈ r := (List.mem_cons.mp (h q List.mem_cons_self)).resolve_left e
        rcases List.mem_cons.mp hu with rfl | hu
        · exact hq
        · refine (List.mem_cons.mp (h u (List.mem_cons_of_mem _ hu))).resolve_left fun z => ?_
          subst z
          exact ltN_irr (ltN_tr (hL.1 q hq) (hs.1 _ hu))
theorem linesN_mem {c a b : Nat} : (a, b) ∈ linesN c ↔ a < c ∧ b < c ∧ a + 1 < b ∧ b - a < c - 1 := by
  unfold linesN
  simp only [List.mem_flatMap, List.mem_range, List.mem_map, List.mem_filter, Bool.and_eq_true, Nat.blt_eq, Prod.mk.injEq]
  constructor
  · rintro ⟨x, hx, y, ⟨hy, h1, h2⟩, rfl, rfl⟩
    exact ⟨hx, hy, h1, h2⟩
  · rintro ⟨h1, h2, h3, h4⟩
    exact ⟨a, h1, b, ⟨h2, h3, h4⟩, rfl, rfl⟩
instance (p q : NL) : Decidable (ltN p q) := by unfold ltN; infer_instance
theorem linesN_sorted {c : Nat} (h1 : 4 ≤ c) (h2 : c ≤ 9) : (linesN c).Pairwise ltN := by
  rcases (show c = 4 ∨ c = 5 ∨ c = 6 ∨ c = 7 ∨ c = 8 ∨ c = 9 by omega) with rfl | rfl | rfl | rfl | rfl | rfl <;> decide +kernel
theorem ltP_iff (p q : Ln) : ltP p q = true ↔ p.1 < q.1 ∨ (p.1 = q.1 ∧ p.2 < q.2) := by
  show (if p.1 = q.1 then decide (p.2 < q.2) else decide (p.1 < q.1)) = true ↔ _
  split <;> rw [decide_eq_true_eq] <;> omega
theorem lineB_iff (c : Int) (p : Ln) : lineB c p = true ↔ 0 ≤ p.1 ∧ p.2 < c ∧ p.1 + 1 < p.2 ∧ p.2 - p.1 < c - 1 := by
  unfold lineB
  simp only [Bool.and_eq_true, decide_eq_true_eq]
theorem lineB_of {c : Int} {p : Ln} (h : lineB c p = true) : toLn (ofLn p) = p := by
  rw [lineB_iff] at h
  unfold toLn ofLn
  obtain ⟨a, b⟩ := p
  simp only [Prod.mk.injEq] at *
  omega
theorem crossB_nat (p q : NL) : crossB (toLn p) (toLn q) = crN p q := by
  unfold crossB crN toLn
  rw [Bool.eq_iff_iff]
  simp only [Bool.or_eq_true, Bool.and_eq_true, decide_eq_true_eq, Nat.blt_eq]
  omega
theorem lnD_get {ls : List Ln} {i : Nat} (h : i < ls.length) : lnD ls i = ls[i] := by
  unfold lnD
  rw [List.getD_eq_getElem?_getD, List.getElem?_eq_getElem h]
  rfl
/-- the lines of a cut, as pairs of counts -/
theorem IsCut.nat {c : Int} {ls : List Ln} (h : IsCut c ls) : ∃ (n : Nat) (s : List NL), c = (n : Int) ∧ 4 ≤ n ∧ n ≤ 9 ∧ ls = s.map toLn ∧ s.length = n - 3 ∧ s.Sublist (linesN n) ∧ s.Pairwise (fun q p => crN q p = false) ∧ s.Pairwise ltN := by
  obtain ⟨h1, h2, h3, h4⟩ := h
  have hline : ∀ p, p ∈ ls → lineB c p = true := fun p hp => by
    obtain ⟨i, hi, rfl⟩ := List.mem_iff_getElem.mp hp
    have := (h4 i hi).1
    rw [lnD_get hi] at this
    exact this
  have hmap : (ls.map ofLn).map toLn = ls := by
    rw [List.map_map]
    have : ls.map (toLn ∘ ofLn) = ls.map id := List.map_congr_left fun p hp => lineB_of (hline p hp)
    rw [this, List.map_id]
  have hof : ∀ (i : Nat) (hi : i < ls.length), toLn (ofLn (ls[i])) = ls[i] := fun i hi => lineB_of (hline _ (List.getElem_mem hi))
  have hltP : ∀ (d i : Nat), i + d + 1 < ls.length → ltP (lnD ls i) (lnD ls (i + d + 1)) = true := fun d => by
    induction d with
    | zero =>
      intro i hi
      exact (h4 (i + 0 + 1) hi).2.1 (by omega)
    | succ d ih =>
      intro i hi
      have a1 := ih i (by omega)
      have a2 := (h4 (i + (d + 1) + 1) hi).2.1 (by omega)
      have e : i + (d + 1) + 1 - 1 = i + d + 1 := by omega
      rw [e] at a2
      rw [ltP_iff] at *
      omega
  have hpair : (ls.map ofLn).Pairwise ltN := by
    rw [List.pairwise_iff_getElem]
    intro i j hi hj hij
    simp only [List.length_map] at hi hj
    have := hltP (j - i - 1) i (by omega)
    have e : i + (j - i - 1) + 1 = j := by omega
    rw [e, lnD_get hi, lnD_get hj, ltP_iff] at this
    have e1 := (lineB_iff c _).mp (hline _ (List.getElem_mem hi))
    have e2 := (lineB_iff c _).mp (hline _ (List.getElem_mem hj))
    rw [List.getElem_map, List.getElem_map]
    show (ls[i].1.toNat < ls[j].1.toNat ∨ (ls[i].1.toNat = ls[j].1.toNat ∧ ls[i].2.toNat < ls[j].2.toNat))
    omega
  refine ⟨c.toNat, ls.map ofLn, by omega, by omega, by omega, hmap.symm, by rw [List.length_map]; omega, sub_sorted (linesN_sorted (by omega) (by omega)) hpair fun p hp => ?_, ?_, hpair⟩
  · obtain ⟨u, hu, rfl⟩ := List.mem_map.mp hp
    have := (lineB_iff c _).mp (hline u hu)
    unfold ofLn
    rw [linesN_mem]
    omega
  · rw [List.pairwise_iff_getElem]
    intro i j hi hj hij
    simp only [List.length_map] at hi hj
    have := (h4 j hj).2.2 i hij
    rw [lnD_get hi, lnD_get hj, ← hof i hi, ← hof j hj, crossB_nat] at this
    rw [List.getElem_map, List.getElem_map]
    exact this
theorem cut_chk {c : Int} {ls : List Ln} {P : Nat → List NL → Bool} (h : IsCut c ls) (hP : ∀ n, 4 ≤ n → n ≤ 9 → chk (P n) (linesN n) [] (n - 3) = true) : ∃ (n : Nat) (s : List NL), c = (n : Int) ∧ 4 ≤ n ∧ n ≤ 9 ∧ ls = s.map toLn ∧ s.length = n - 3 ∧ (∀ p, p ∈ s → p.1 < p.2 ∧ p.2 < n) ∧ P n s = true := by
  obtain ⟨n, s, e1, e2, e3, e4, e5, e6, e7, e8⟩ := h.nat
  refine ⟨n, s, e1, e2, e3, e4, e5, fun p hp => ?_, ?_⟩
  · have := linesN_mem.mp (e6.subset hp)
    omega
  · have := chk_all (hP n e2 e3) e6 e5 (fun q hq => absurd hq (by simp)) e7
    exact this
/-! ### each line has a triangle -/
def sideN (n : Nat) (s : List NL) (i j : Nat) : Bool := Nat.beq j (i + 1) || (Nat.beq (j + 1) (i + n) || s.any fun p => Nat.beq p.1 i && Nat.beq p.2 j)
/-- m is the third corner of a triangle of the line p -/
def thirdN (n : Nat) (s : List NL) (p : NL) (m : Nat) : Bool :=
  (Nat.blt m p.1 && (sideN n s m p.1 && sideN n s m p.2)) || ((Nat.blt p.1 m && (Nat.blt m p.2 && (sideN n s p.1 m && sideN n s m p.2))) || (Nat.blt p.2 m && (sideN n s p.1 m && sideN n s p.2 m)))
def hasTri (n : Nat) (s : List NL) : Bool := s.all fun p => (List.range n).any fun m => thirdN n s p m
theorem hasTri_all (n : Nat) (h1 : 4 ≤ n) (h2 : n ≤ 9) : chk (hasTri n) (linesN n) [] (n - 3) = true := by
  rcases (show n = 4 ∨ n = 5 ∨ n = 6 ∨ n = 7 ∨ n = 8 ∨ n = 9 by omega) with rfl | rfl | rfl | rfl | rfl | rfl <;> decide +kernel
theorem sideN_eq {n : Nat} {s : List NL} {i j : Nat} : sideN n s i j = sideB (n : Int) (s.map toLn) (i : Int) (j : Int) := by
  unfold sideN sideB
  rw [Bool.eq_iff_iff]
  simp only [Bool.or_eq_true, Bool.and_eq_true, decide_eq_true_eq, Nat.beq_eq, List.any_eq_true]
  have e : ((∃ x, x ∈ s ∧ x.1 = i ∧ x.2 = j) ↔ ((i : Int), (j : Int)) ∈ s.map toLn) := by
    constructor
    · rintro ⟨x, hx, rfl, rfl⟩
      exact List.mem_map.mpr ⟨x, hx, rfl⟩
    · intro h
      obtain ⟨x, hx, e⟩ := List.mem_map.mp h
      unfold toLn at e
      simp only [Prod.mk.injEq] at e
      exact ⟨x, hx, by omega, by omega⟩
  have a1 : j = i + 1 ↔ (j : Int) - (i : Int) = 1 := by omega
  have a2 : j + 1 = i + n ↔ (j : Int) - (i : Int) = (n : Int) - 1 := by omega
  rw [e, a1, a2]
end AT

/-! ## the third corners of the triangles of a line -/
namespace AT
open PySem PySem.Spec PyProof.Rows L2 Evl
def hasT (t : Tr) (i : Int) : Bool := decide (i = t.1) || (decide (i = t.2.1) || decide (i = t.2.2))
def leftOf (n : Nat) (ls : List Ln) (p : Ln) : List Int := ((tris n ls).filter fun t => hasT t p.1 && hasT t p.2).map fun t => (t.1 : Int) + t.2.1 + t.2.2 - p.1 - p.2
theorem inV_three (d : Int) (t : Tr) : inV (.int d) (trV t) = hasT t d := by
  simp only [trV, inV, List.any_cons, List.any_nil, eqV, Bool.or_false, hasT]
  rw [Bool.eq_iff_iff]
  simp only [Bool.or_eq_true, beq_iff_eq, decide_eq_true_eq]
  omega
theorem tris_mem {n : Nat} {ls : List Ln} {a b c : Nat} : (a, b, c) ∈ tris n ls ↔ a < b ∧ b < c ∧ c < n ∧ triB n ls a b c = true := by
  unfold tris tri3 tri2 tri1
  simp only [List.mem_flatMap, List.mem_range, List.mem_range'_1, List.mem_map, List.mem_filter, Prod.mk.injEq]
  constructor
  · rintro ⟨a', h1, b', h2, c', ⟨h3, h4⟩, rfl, rfl, rfl⟩
    exact ⟨by omega, by omega, by omega, h4⟩
  · rintro ⟨h1, h2, h3, h4⟩
    exact ⟨a, by omega, b, by omega, c, ⟨by omega, h4⟩, rfl, rfl, rfl⟩
theorem sideN_of {n : Nat} {s : List NL} {p : NL} (h : p ∈ s) : sideB (n : Int) (s.map toLn) (p.1 : Int) (p.2 : Int) = true := by
  unfold sideB
  have : ((p.1 : Int), (p.2 : Int)) ∈ s.map toLn := List.mem_map.mpr ⟨p, h, rfl⟩
  simp [this]
theorem third_tri {n : Nat} {s : List NL} {p : NL} {m : Nat} (hp : p ∈ s) (h12 : p.1 < p.2) (h2 : p.2 < n) (hm : m < n) (h : thirdN n s p m = true) : ∃ t, t ∈ tris n (s.map toLn) ∧ hasT t p.1 = true ∧ hasT t p.2 = true := by
  unfold thirdN at h
  simp only [Bool.or_eq_true, Bool.and_eq_true, Nat.blt_eq, sideN_eq] at h
  have hs := sideN_of (n := n) hp
  rcases h with ⟨h3, h4, h5⟩ | ⟨h3, h4, h5, h6⟩ | ⟨h3, h4, h5⟩
  · exact ⟨(m, p.1, p.2), tris_mem.mpr ⟨h3, h12, h2, by unfold triB; rw [h4, hs, h5]; rfl⟩, by simp [hasT], by simp [hasT]⟩
  · exact ⟨(p.1, m, p.2), tris_mem.mpr ⟨h3, h4, h2, by unfold triB; rw [h5, hs, h6]; rfl⟩, by simp [hasT], by simp [hasT]⟩
  · exact ⟨(p.1, p.2, m), tris_mem.mpr ⟨h12, h3, hm, by unfold triB; rw [h4, hs, h5]; rfl⟩, by simp [hasT], by simp [hasT]⟩
theorem left_ne {n : Nat} {ls : List Ln} {p : Ln} (h : IsCut (n : Int) ls) (hp : p ∈ ls) : leftOf n ls p ≠ [] := by
  obtain ⟨n', s, e1, e2, e3, e4, e5, e6, e7⟩ := cut_chk (P := hasTri) h hasTri_all
  have : n' = n := by omega
  subst this
  subst e4
  obtain ⟨u, hu, rfl⟩ := List.mem_map.mp hp
  unfold hasTri at e7
  obtain ⟨m, hm, h3⟩ := List.any_eq_true.mp (List.all_eq_true.mp e7 u hu)
  obtain ⟨t, ht, h4, h5⟩ := third_tri hu (e6 u hu).1 (e6 u hu).2 (List.mem_range.mp hm) h3
  intro z
  unfold leftOf at z
  rw [List.map_eq_nil_iff] at z
  have : t ∈ ([] : List Tr) := z ▸ List.mem_filter.mpr ⟨ht, by
    show (hasT t (u.1 : Int) && hasT t (u.2 : Int)) = true
    rw [h4, h5]; rfl⟩
  cases this
/-! ### the least of ints -/
def minI (xs : List Int) : Int := 0 - maxL (xs.map fun x => 0 - x)
theorem minI_eq {xs : List Int} {m : Int} (h1 : m ∈ xs) (h2 : ∀ y, y ∈ xs → m ≤ y) : m = minI xs := by
  have := maxL_eq (xs := xs.map fun x => 0 - x) (m := 0 - m) (List.mem_map.mpr ⟨m, h1, rfl⟩) fun y hy => by
    obtain ⟨z, hz, rfl⟩ := List.mem_map.mp hy
    have := h2 z hz
    omega
  unfold minI
  omega
/-- the cut turned at a line -/
def turnC (n : Nat) (ls : List Ln) (p : Ln) : List Ln := sortP ((ls.filter fun q => !decide (q = p)) ++ [(minI (leftOf n ls p), maxL (leftOf n ls p))])
section
variable {K : Frag} {σ : St} {H H0 : Hp} {te tl tv tmn tmx : TE} {t : TT} {a p : Addr} {xs : List Int}
theorem ev_minN (h : Ev te σ H (.ref a)) (hL : LI K H a xs) (hn : xs ≠ []) : Ev (tCB (rMin K) (tCons te tNil)) σ H (.int (minI xs)) := fun H1 e Q q =>
  h H1 e _ fun H2 e2 => ⟨a, xs, rfl, hL.mono (e.trans e2), List.length_pos_iff.mpr hn, fun m hm hle => by
    rw [minI_eq hm hle]
    exact q H2 e2⟩
theorem given_filter {α : Type} (d : α) (l : List α) (g : α → Bool) (v : α → V) : given l.length (fun j => g (l.getD j d)) (fun j => v (l.getD j d)) = (l.filter g).map v := by
  unfold given
  conv => rhs; rw [list_eq_range d l]
  rw [List.filter_map, List.map_map]
  rfl
/-- over a list that the reading makes -/
theorem el_lcE {R0 : R3} {j n : Nat} {vs : List Nat} (f : Nat → Bool) (v : Nat → V) (h : Er tl σ H R0) (hz : n ≤ 40000) (hw : ∀ x, wipe ((wipe σ vs).set j (some x)) vs = wipe σ vs)
    (hs : ∀ H1 H2 v0, Ex H H1 → Ex H1 H2 → R0 H1 H2 v0 → ∃ a xs, v0 = .ref a ∧ SqL K H2 a xs ∧ xs.length = n ∧ ∀ (i : Nat) x H3, xs[i]? = some x → Ex H2 H3 → EvT t ((wipe σ vs).set j (some x)) H3 (f i) ∧ (f i = true → Ev te ((wipe σ vs).set j (some x)) H3 (v i))) :
    EvL (tLc (iList K tl) (gName j) t te vs) σ H (given n f v) := fun H0 e Q q => h H0 e _ fun v0 H1 e1 r => by
  obtain ⟨a, xs, ev, hx, hn, hi⟩ := hs H0 H1 v0 e e1 r
  subst ev
  subst hn
  exact ⟨a, rfl, ⟨xs, hx⟩, fun Dl hD =>
    lc_list (xs := xs) (Cw H1 f v Dl) ⟨hD, Ex.new hD, upd_same⟩ (fun i H' _ p => ex_l p.2.1 hx) (fun i x H' hj p => ⟨hw x, cw_turn p (by have := (List.getElem?_eq_some_iff.mp hj).1; omega) ((hi i x H1 hj (Ex.refl _)).1) (fun hf => (hi i x H1 hj (Ex.refl _)).2 hf)⟩)
      (fun H' p => q Dl H' (fresh_back e1 p.1) (e1.trans p.2.1) p.2.2)⟩
/-- [one for one in lines if one != line] + [(min, max)] -/
theorem er_newcut {j : Nat} {vs : List Nat} {ls : List Ln} {lx : Addr} {u : Ln} {mn mx : Int} (h : Ev tl σ H (.ref a)) (hL : LP K H a ls) (hl : ls.length ≤ 1000) (hw : ∀ x, wipe ((wipe σ vs).set j (some x)) vs = wipe σ vs) (hj : ∀ x, ((wipe σ vs).set j (some x))[j]? = some (some x))
    (hv : ∀ x H1, Ev tv ((wipe σ vs).set j (some x)) H1 (.ref lx)) (hu : PT K H lx u) (h1 : Ev tmn σ H (.int mn)) (h2 : Ev tmx σ H (.int mx)) :
    Er (tOp rCat (tLc (iList K tl) (gName j) (tTest (tOp (rNeD K) (tVar j) tv)) (tVar j) vs) (tLst (tCons (tTup (tCons tmn (tCons tmx tNil))) tNil))) σ H (fun _ H2 v => ∃ b, v = .ref b ∧ LP K H2 b ((ls.filter fun q => !decide (q = u)) ++ [(mn, mx)])) := fun H1 e Q q => by
  obtain ⟨as, hA, hP⟩ := id hL
  have hlen := hP.length
  obtain ⟨z1, z2⟩ := zip_of hP.length
  have hz := paired_zip hP
  generalize as.zip ls = zs at *
  subst z1; subst z2
  have hll := hl
  rw [List.length_map] at hll
  let d : Addr × Ln := (0, (0, 0))
  have hx : ∀ (i : Nat) (x : V), ((zs.map (·.1)).map V.ref)[i]? = some x → zs[i]? = some (zs.getD i d) ∧ x = .ref (zs.getD i d).1 := fun i x hx => by
    rw [List.map_map, List.getElem?_map] at hx
    cases hy : zs[i]? with
    | none => rw [hy] at hx; cases hx
    | some y =>
      rw [hy] at hx
      cases hx
      rw [List.getD_eq_getElem?_getD, hy]
      exact ⟨rfl, rfl⟩
  have hlc := el_lcL (K := K) (te := tVar j) (t := tTest (tOp (rNeD K) (tVar j) tv)) (fun i => !decide ((zs.getD i d).2 = u)) (fun i => .ref (zs.getD i d).1) h hA (by rw [List.length_map, List.length_map]; omega) hw
    (fun i x G1 g1 hxi => by
      obtain ⟨c1, rfl⟩ := hx i x hxi
      exact et_test (ev_op (ev_var (hj _)) (hv _ G1) (rv_neP ((hz _ (List.mem_of_getElem? c1)).mono g1) (hu.mono g1))))
    (fun i x G1 g1 hxi _ => by
      obtain ⟨c1, rfl⟩ := hx i x hxi
      exact ev_var (hj _))
  rw [List.length_map, List.length_map, given_filter d zs (fun z => !decide (z.2 = u)) (fun z => .ref z.1)] at hlc
  refine hlc H1 e _ fun b1 H2 hb1 e2 hb1' => ?_
  refine h1 H2 (e.trans e2) _ fun H3 e3 => h2 H3 ((e.trans e2).trans e3) _ fun H4 e4 => ?_
  refine ⟨by show 2 ≤ sizeLine; decide, fun y hy => ?_⟩
  have ey : Ex H4 (upd H4 y (.tup [.int mn, .int mx])) := Ex.new hy
  refine ⟨by show 1 ≤ sizeLine; decide, fun b2 hb2 => ?_⟩
  have eb : Ex (upd H4 y (.tup [.int mn, .int mx])) (upd (upd H4 y (.tup [.int mn, .int mx])) b2 (.lst [.ref y])) := Ex.new hb2
  have e25 := ((e3.trans e4).trans ey).trans eb
  refine ⟨b1, b2, _, _, rfl, rfl, e25 _ _ hb1', upd_same, ?_, fun b3 hb3 => ?_⟩
  · rw [List.length_map]
    have := List.length_filter_le (fun z : Addr × Ln => !decide (z.2 = u)) zs
    refine Nat.le_trans (m := 2000) ?_ (by decide)
    show _ + 1 ≤ 2000
    omega
  · have eb3 := Ex.new (o := .lst ((zs.filter fun z => !decide (z.2 = u)).map (fun z => V.ref z.1) ++ [.ref y])) hb3
    refine q _ _ ((e2.trans e25).trans eb3) ⟨b3, rfl, (zs.filter fun z => !decide (z.2 = u)).map (·.1) ++ [y], ?_, ?_⟩
    · refine sq_of ?_
      rw [upd_same, List.map_append, List.map_map]
      rfl
    · have hf : (zs.map (·.2)).filter (fun q => !decide (q = u)) = (zs.filter fun z => !decide (z.2 = u)).map (·.2) := by rw [List.filter_map]; rfl
      rw [hf]
      refine paired_append (paired_of_zip fun z hz' => ((hz z (List.mem_filter.mp hz').1).mono (e.trans ((e2.trans e25).trans eb3)))) (.cons (st_of ((eb.trans eb3) _ _ upd_same)) .nil)
end
end AT

/-! ## form_of, cut_turned -/
namespace AT
open PySem PySem.Spec PyProof.Rows L2 Evl
def sp_form_of (K : Frag) (CC : Addr) : Sp := fun vs H Q E => ∃ (c : Int) (a : Addr) (ls : List Ln), vs = [.int c, .ref a] ∧ LP K H a ls ∧ ls.length ≤ 100 ∧ (¬ IsCut c ls → ∀ H', Ex H H' → E (.ref CC) none H') ∧
  (∀ n : Nat, c = n → IsCut n ls → ∀ H' p, Ex H H' → OLLI H H' p (Fm ls.length (formF n ls)) → Q (.ref p) H')
def sp_cut_turned (K : Frag) (CC CB : Addr) : Sp := fun vs H Q E => ∃ (c : Int) (a x : Addr) (ls : List Ln) (u : Ln), vs = [.int c, .ref a, .ref x] ∧ LP K H a ls ∧ ls.length ≤ 100 ∧ PT K H x u ∧ (¬ IsCut c ls → ∀ H', Ex H H' → E (.ref CC) none H') ∧
  (IsCut c ls → u ∉ ls → ∀ H', Ex H H' → E (.ref CB) none H') ∧ (∀ n : Nat, c = n → IsCut n ls → u ∈ ls → ∀ H' p, Ex H H' → OLP K H H' p (turnC n ls u) → Q (.ref p) H')
theorem IsCut.nat_len {n : Nat} {ls : List Ln} (h : IsCut (n : Int) ls) : n ≤ 9 ∧ 4 ≤ n ∧ ls.length = n - 3 ∧ 1 ≤ ls.length ∧ ls.length ≤ 6 := by
  obtain ⟨h1, h2, h3, _⟩ := h
  omega
section
variable {K : Frag} {σ : St} {H H0 H1 : Hp} {te : TE} {ta : TA} {E : XK} {a x : Addr} {n : Nat} {ls : List Ln} {u : Ln}
theorem er_formby (h : EvA ta σ H [.int (n : Int), .ref a]) (hL : LP K H a ls) (hC : IsCut n ls) : Er (tCall (sp_form_by K) [] E ta) σ H (RM (Fm ls.length (formF n ls))) :=
  er_call mon_RM h fun H1 e1 Q q E => ⟨n, a, ls, rfl, hL.mono e1, by have := hC.nat_len; omega, by have := hC.nat_len; omega, by have := hC.nat_len; omega, fun H' p e hO => q _ H' e ⟨p, rfl, hO⟩⟩
theorem er_formof {CC : Addr} (h : EvA ta σ H [.int (n : Int), .ref a]) (hL : LP K H a ls) (hC : IsCut n ls) : Er (tCall (sp_form_of K CC) [] E ta) σ H (RM (Fm ls.length (formF n ls))) :=
  er_call mon_RM h fun H1 e1 Q q E => ⟨n, a, ls, rfl, hL.mono e1, by have := hC.nat_len; omega, fun z => absurd hC z, fun m e hC' H' p e2 hO => by
    have : m = n := by omega
    subst this
    exact q _ H' e2 ⟨p, rfl, hO⟩⟩
theorem er_cutt {CC CB : Addr} (h : EvA ta σ H [.int (n : Int), .ref a, .ref x]) (hL : LP K H a ls) (hC : IsCut n ls) (hx : PT K H x u) (hu : u ∈ ls) : Er (tCall (sp_cut_turned K CC CB) [] E ta) σ H (RLP K (turnC n ls u)) :=
  er_call mon_RLP h fun H1 e1 Q q E => ⟨n, a, x, ls, u, rfl, hL.mono e1, by have := hC.nat_len; omega, hx.mono e1, fun z => absurd hC z, fun _ z => absurd hu z, fun m e hC' _ H' p e2 hO => by
    have : m = n := by omega
    subst this
    exact q _ H' e2 ⟨p, rfl, hO⟩⟩
/-- what is not l stays -/
def Sx (l : Addr) (H H1 : Hp) : Prop := ∀ (y : Addr) (o : HO), y ≠ l → H y = some o → H1 y = some o
theorem Sx.of {l : Addr} {H H1 : Hp} (e : Ex H H1) : Sx l H H1 := fun y o _ h => e y o h
theorem Sx.trans {l : Addr} {H H1 H2 : Hp} (a : Sx l H H1) (b : Sx l H1 H2) : Sx l H H2 := fun y o n h => b y o n (a y o n h)
theorem Sx.upd {l : Addr} {H : Hp} {o : HO} : Sx l H (upd H l o) := fun y o n h => by rw [upd_ne n]; exact h
end
section
variable {P : Program} {w : World} {K : Frag} {mg : Str → Option Value} {base : Heap} {k : Nat}
theorem ok_form_of (T : Txt K mg) (G_must_cut : FnOk P w K mg base (L2.CX P w) k T.f_must_cut T.d_must_cut ["corners", "lines"] (sp_must_cut K T.c_NoCut)) (G_form_by : FnOk P w K mg base CX0 k T.f_form_by T.d_form_by ["corners", "lines"] (sp_form_by K)) :
    FnOk P w K mg base (L2.CX P w) (k + 1) T.f_form_of T.d_form_of ["corners", "lines"] (sp_form_of K T.c_NoCut) := by
  refine T.F_form_of.okX sc_form_of (fun vs H Q E h => ?_) (fun cdv A outer s H vs Q E hr h => ?_)
  · obtain ⟨c, a, ls, rfl, _⟩ := h
    rfl
  · obtain ⟨c, a, ls, rfl, hL, hl, q1, q2⟩ := h
    refine ⟨_, (pss_cons (ps_expr (pe_call G_must_cut hr rfl T.m_must_cut T.F_must_cut.kp T.b_must_cut .nil (passes_call (takes_of rfl rfl rfl rfl) (fun _ _ _ _ h => h)) (pa_cons (pv 0) (pa_cons (pv 1) pa_nil))))
      (pss_one (ps_ret (pe_call G_form_by hr rfl T.m_form_by T.F_form_by.kp T.b_form_by .nil pass0 (pa_cons (pv 0) (pa_cons (pv 1) pa_nil)))))), ?_⟩
    refine ⟨.int c, rfl, .ref a, rfl, c, a, ls, rfl, hL, hl, fun H1 e1 => ⟨fun hC => ?_, fun z => q1 z H1 e1⟩⟩
    obtain ⟨n, rfl⟩ : ∃ n : Nat, c = n := ⟨c.toNat, by have := hC.1; omega⟩
    dsimp only
    refine sr_ret (er_formby (ea_cons (ev_var rfl) (ea_cons (ev_var rfl) ea_nil)) (hL.mono e1) hC) fun v H2 e2 ⟨p, hv, hO⟩ => ?_
    subst hv
    exact q2 n rfl hC H2 p (e1.trans e2) (hO.back e1)
end
end AT

/-! ## the drawn cut: a stack of spans, each split at a drawn corner -/
namespace AT
open PySem PySem.Spec PyProof.Rows L2 Evl
def mrun (A : Nat → Nat → Nat) (c : Nat) : Nat → List NL → List NL → List NL
  | 0, _, ls => ls
  | _ + 1, [], ls => ls
  | f + 1, p :: st, ls => if 1 < p.2 - p.1 then mrun A c f ((A p.1 p.2, p.2) :: (p.1, A p.1 p.2) :: st) (if p.2 - p.1 < c - 1 then ls ++ [p] else ls) else mrun A c f st ls
def chkM (P : List NL → Bool) (c : Nat) : Nat → List NL → List NL → Bool
  | 0, _, ls => P ls
  | _ + 1, [], ls => P ls
  | f + 1, p :: st, ls => if Nat.blt 1 (p.2 - p.1) then (List.range (p.2 - p.1 - 1)).all fun d => chkM P c f ((p.1 + 1 + d, p.2) :: (p.1, p.1 + 1 + d) :: st) (if Nat.blt (p.2 - p.1) (c - 1) then ls ++ [p] else ls) else chkM P c f st ls
theorem chkM_run {P : List NL → Bool} {A : Nat → Nat → Nat} {c : Nat} (hA : ∀ i j, 1 < j - i → i < A i j ∧ A i j < j) : ∀ {f : Nat} {st ls : List NL}, chkM P c f st ls = true → P (mrun A c f st ls) = true
  | 0, _, _, h => h
  | _ + 1, [], _, h => h
  | f + 1, p :: st, ls, h => by
    unfold chkM at h
    unfold mrun
    simp only [Nat.blt_eq] at h
    by_cases h1 : 1 < p.2 - p.1
    · rw [if_pos h1] at h ⊢
      obtain ⟨a1, a2⟩ := hA p.1 p.2 h1
      have := List.all_eq_true.mp h (A p.1 p.2 - p.1 - 1) (List.mem_range.mpr (by omega))
      have e : p.1 + 1 + (A p.1 p.2 - p.1 - 1) = A p.1 p.2 := by omega
      rw [e] at this
      exact chkM_run hA this
    · rw [if_neg h1] at h ⊢
      exact chkM_run hA h
def ltNb (p q : NL) : Bool := Nat.blt p.1 q.1 || (Nat.beq p.1 q.1 && Nat.blt p.2 q.2)
theorem ltNb_iff {p q : NL} : ltNb p q = true ↔ ltN p q := by
  unfold ltNb ltN
  simp only [Bool.or_eq_true, Bool.and_eq_true, Nat.blt_eq, Nat.beq_eq]
def insN (p : NL) : List NL → List NL
  | [] => [p]
  | q :: r => if ltNb p q then p :: q :: r else q :: insN p r
def isortN : List NL → List NL
  | [] => []
  | p :: r => insN p (isortN r)
theorem insN_perm (p : NL) : ∀ l : List NL, (insN p l).Perm (p :: l)
  | [] => .refl _
  | q :: r => by
    unfold insN
    split
    · exact .refl _
    · exact ((insN_perm p r).cons q).trans (.swap p q r)
theorem isortN_perm : ∀ l : List NL, (isortN l).Perm l
  | [] => .refl _
  | p :: r => (insN_perm p _).trans ((isortN_perm r).cons p)
/-- a list of lines is a cut, looked at by the kernel -/
def sortedN : List NL → Bool
  | p :: q :: r => ltNb p q && sortedN (q :: r)
  | _ => true
def apartN : List NL → Bool
  | [] => true
  | p :: r => r.all (fun q => !crN p q) && apartN r
def cutN (c : Nat) (s : List NL) : Bool := Nat.beq s.length (c - 3) && (s.all (fun p => Nat.blt (p.1 + 1) p.2 && (Nat.blt p.2 c && Nat.blt (p.2 - p.1) (c - 1))) && (sortedN s && apartN s))
theorem sortedN_pw : ∀ {s : List NL}, sortedN s = true → s.Pairwise ltN
  | [], _ => .nil
  | [p], _ => List.pairwise_singleton _ _
  | p :: q :: r, h => by
    have h : (ltNb p q && sortedN (q :: r)) = true := h
    rw [Bool.and_eq_true, ltNb_iff] at h
    have ih := sortedN_pw h.2
    refine List.pairwise_cons.mpr ⟨fun u hu => ?_, ih⟩
    rcases List.mem_cons.mp hu with rfl | hu
    · exact h.1
    · exact ltN_tr h.1 ((List.pairwise_cons.mp ih).1 u hu)
theorem apartN_pw : ∀ {s : List NL}, apartN s = true → s.Pairwise (fun q p => crN q p = false)
  | [], _ => .nil
  | p :: r, h => by
    have h : (r.all (fun q => !crN p q) && apartN r) = true := h
    rw [Bool.and_eq_true] at h
    refine List.pairwise_cons.mpr ⟨fun u hu => ?_, apartN_pw h.2⟩
    have := List.all_eq_true.mp h.1 u hu
    simpa using this
theorem ltP_toLn {p q : NL} : ltP (toLn p) (toLn q) = true ↔ ltN p q := by
  rw [ltP_iff]
  unfold toLn ltN
  omega
theorem cutN_is {c : Nat} {s : List NL} (h1 : 4 ≤ c) (h2 : c ≤ 9) (h : cutN c s = true) : IsCut (c : Int) (s.map toLn) := by
  unfold cutN at h
  simp only [Bool.and_eq_true, Nat.beq_eq] at h
  obtain ⟨hl, ha, hs, hx⟩ := h
  have hs := sortedN_pw hs
  have hx := apartN_pw hx
  refine ⟨by omega, by omega, by rw [List.length_map]; omega, fun k hk => ?_⟩
  rw [List.length_map] at hk
  have hget : ∀ i, (hi : i < s.length) → lnD (s.map toLn) i = toLn s[i] := fun i hi => by
    rw [lnD_get (by rw [List.length_map]; exact hi), List.getElem_map]
  refine ⟨?_, fun h0 => ?_, fun j hj => ?_⟩
  · rw [hget k hk, lineB_iff]
    have := List.all_eq_true.mp ha s[k] (List.getElem_mem hk)
    simp only [Bool.and_eq_true, Nat.blt_eq] at this
    unfold toLn
    dsimp only
    omega
  · rw [hget k hk, hget (k - 1) (by omega), ltP_toLn]
    exact List.pairwise_iff_getElem.mp hs (k - 1) k (by omega) hk (by omega)
  · rw [hget k hk, hget j (by omega), crossB_nat]
    exact List.pairwise_iff_getElem.mp hx j k (by omega) hk hj
theorem leP_of {p q : Ln} (h : ltP p q = true) : leP p q = true := by
  unfold leP
  rw [Bool.not_eq_true', ← Bool.not_eq_true, ltP_iff]
  rw [ltP_iff] at h
  omega
theorem leP_tr (a b c : Ln) : leP a b = true → leP b c = true → leP a c = true := by
  unfold leP
  rw [Bool.not_eq_true', Bool.not_eq_true', Bool.not_eq_true', ← Bool.not_eq_true, ← Bool.not_eq_true, ← Bool.not_eq_true, ltP_iff, ltP_iff, ltP_iff]
  omega
theorem leP_tot (a b : Ln) : (leP a b || leP b a) = true := by
  unfold leP
  rw [Bool.or_eq_true, Bool.not_eq_true', Bool.not_eq_true', ← Bool.not_eq_true, ← Bool.not_eq_true, ltP_iff, ltP_iff]
  omega
theorem leP_anti {a b : Ln} (h1 : leP a b = true) (h2 : leP b a = true) : a = b := by
  unfold leP at h1 h2
  rw [Bool.not_eq_true', ← Bool.not_eq_true, ltP_iff] at h1 h2
  exact Prod.ext (by omega) (by omega)
/-- what sorted makes of lines is known by their set -/
theorem sortP_eq {ls ms : List Ln} (hp : ls.Perm ms) (hs : ms.Pairwise fun p q => leP p q = true) : sortP ls = ms := by
  unfold sortP
  refine List.Perm.eq_of_pairwise (le := fun p q => leP p q = true) (fun a b _ _ h1 h2 => leP_anti h1 h2) ?_ hs ((List.mergeSort_perm ls leP).trans hp)
  exact List.pairwise_mergeSort leP_tr leP_tot ls
theorem sortP_cut {c : Nat} {ls : List NL} (h : cutN c (isortN ls) = true) : sortP (ls.map toLn) = (isortN ls).map toLn := by
  refine sortP_eq ((isortN_perm ls).map toLn).symm ?_
  unfold cutN at h
  simp only [Bool.and_eq_true] at h
  have hs := sortedN_pw h.2.2.1
  rw [List.pairwise_map]
  exact hs.imp fun h => leP_of (ltP_toLn.mpr h)
def drawnOk (c : Nat) (ls : List NL) : Bool := cutN c (isortN ls)
theorem drawn_all (c : Nat) (h1 : 4 ≤ c) (h2 : c ≤ 9) : chkM (drawnOk c) c (2 * c - 3) [(0, c - 1)] [] = true := by
  rcases (show c = 4 ∨ c = 5 ∨ c = 6 ∨ c = 7 ∨ c = 8 ∨ c = 9 by omega) with rfl | rfl | rfl | rfl | rfl | rfl <;> decide +kernel
theorem drawn_cut {A : Nat → Nat → Nat} {c : Nat} (h1 : 4 ≤ c) (h2 : c ≤ 9) (hA : ∀ i j, 1 < j - i → i < A i j ∧ A i j < j) : IsCut (c : Int) (sortP ((mrun A c (2 * c - 3) [(0, c - 1)] []).map toLn)) := by
  have := chkM_run hA (drawn_all c h1 h2)
  rw [sortP_cut this]
  exact cutN_is h1 h2 this
/-- turns left -/
def muS (st : List NL) : Nat := (st.map fun p => 2 * (p.2 - p.1) - 1).sum
end AT

/-! ## the drawn cut, walked -/
namespace AT
open PySem PySem.Spec PyProof.Rows L2 Evl
section
variable {K : Frag} {σ : St} {H H0 H1 : Hp} {te : TE} {a x m l : Addr} {D : Ends} {tz : TS}
theorem LPH.upd {ss : List Ln} {zs : List V} {o : HO} (h : LPH H m ss) (hm : m ≠ l) (hl : H l = some (.lst zs)) : LPH (upd H l o) m ss := by
  obtain ⟨ms, h1, h2⟩ := h
  refine ⟨ms, by rw [upd_ne hm]; exact h1, paired_mono h2 fun y p z => ?_⟩
  rw [upd_ne]
  · exact z
  · intro e
    subst e
    rw [hl] at z
    cases z
theorem LPH.push {ss : List Ln} {p : Ln} (h : LPH H m ss) : ∃ vs : List V, H m = some (.lst vs) ∧ vs.length = ss.length ∧ ∀ H1 x, Ex H H1 → H1 x = some (.tup [.int p.1, .int p.2]) → LPH (L2.upd H1 m (.lst (vs ++ [.ref x]))) m (ss ++ [p]) := by
  obtain ⟨ms, h1, h2⟩ := h
  refine ⟨_, h1, by rw [List.length_map, h2.length], fun H1 x e hx => ⟨ms ++ [x], by rw [upd_same, List.map_append]; rfl, ?_⟩⟩
  have h3 : Paired (fun x (p : Ln) => H1 x = some (.tup [.int p.1, .int p.2])) (ms ++ [x]) (ss ++ [p]) := paired_append (paired_mono h2 fun _ _ z => e _ _ z) (.cons hx .nil)
  refine paired_mono h3 fun y u hy => ?_
  rw [upd_ne]
  · exact hy
  · intro z
    subst z
    rw [e _ _ h1] at hy
    cases hy
theorem ev_lenLPH {ta : TE} {ls : List Ln} (ha : Ev ta σ H (.ref a)) (h : LPH H a ls) : Ev (tCB (rLenS K) (tCons ta tNil)) σ H (.int (ls.length : Int)) := ev_lenLP ha (h.lp (K := K))
theorem er_LP {ls : List Ln} (h : Ev te σ H (.ref a)) (hL : LP K H a ls) : Er te σ H (fun _ G2 v => ∃ b, v = .ref b ∧ LP K G2 b ls) := fun H1 e Q q => h H1 e Q fun H2 e2 => q _ H2 e2 ⟨a, rfl, hL.mono (e.trans e2)⟩
theorem muS_cons {p : NL} {st : List NL} : muS (p :: st) = 2 * (p.2 - p.1) - 1 + muS st := by simp [muS]
theorem muS_len : ∀ {st : List NL}, (∀ p, p ∈ st → p.1 < p.2) → st.length ≤ muS st
  | [], _ => by simp
  | p :: st, h => by
    have h1 := h p List.mem_cons_self
    have h2 := muS_len (st := st) fun q hq => h q (List.mem_cons_of_mem _ hq)
    rw [muS_cons, List.length_cons]
    omega
end
def sp__law_cut (K : Frag) : Sp := fun vs H Q _ => ∃ (a : Addr) (ns : List Int) (k c : Nat), vs = [.ref a, .int (k : Int), .int (c : Int)] ∧ LI K H a ns ∧ k ≤ 1000 ∧ 4 ≤ c ∧ c ≤ 9 ∧ ∀ ls H' p, Ex H H' → IsCut (c : Int) ls → OLP K H H' p ls → Q (.ref p) H'
/-- the corner drawn between i and j -/
def drawnA (ns : List Int) (k i j : Nat) : Nat := (((i : Int) + 1 + cellV ns (k + i) / (1 + (j : Int)) % ((j : Int) - (i : Int) - 1))).toNat
theorem drawnA_in (ns : List Int) (k i j : Nat) (h : 1 < j - i) : i < drawnA ns k i j ∧ drawnA ns k i j < j ∧ ((drawnA ns k i j : Nat) : Int) = (i : Int) + 1 + cellV ns (k + i) / (1 + (j : Int)) % ((j : Int) - (i : Int) - 1) := by
  unfold drawnA
  have h1 := Int.emod_nonneg (cellV ns (k + i) / (1 + (j : Int))) (b := (j : Int) - (i : Int) - 1) (by omega)
  have h2 := Int.emod_lt_of_pos (cellV ns (k + i) / (1 + (j : Int))) (b := (j : Int) - (i : Int) - 1) (by omega)
  omega
section
variable {P : Program} {w : World} {K : Frag} {mg : Str → Option Value} {base : Heap} {k : Nat}
theorem ok__law_cut (T : Txt K mg) (G__law_cell : FnOk P w K mg base CX0 k T.f__law_cell T.d__law_cell ["script", "k"] (sp__law_cell K)) : FnOk P w K mg base CX0 (k + 1) T.f__law_cut T.d__law_cut ["script", "k", "corners"] (sp__law_cut K) := by
  refine T.F__law_cut.ok sc__law_cut (fun vs H Q E h => ?_) (fun cdv A outer s H vs Q E hr h => ?_)
  · obtain ⟨a, ns, k, c, rfl, _⟩ := h
    rfl
  · obtain ⟨a, ns, k, c, rfl, hL, hk, h4, h9, q⟩ := h
    refine ⟨_, (pss_cons (ps_set (i := 3) sc__law_cut.nd rfl (.inl rfl) (pe_lst pa_nil))
      (pss_cons (ps_set (i := 4) sc__law_cut.nd rfl (.inl rfl) (pe_lst (pa_cons (pe_tup (pa_cons pe_int (pa_cons (pe_op op_sub (pv 2) pe_int) pa_nil))) pa_nil)))
      (pss_cons (ps_while PassesOwn.never (pt_cmpR op_gt (pe_callB (lenK K) rfl T.b_len PySem.boot_len (pa_cons (pv 4) pa_nil)) pe_int (nomark _))
        (pss_cons (ps_asg (bm0K K PySem.F.plainAttrs_list PySem.F.slot_list_pop PySem.F.type_list_pop mt_pop (pv 4)) (pg_tupK K (n := 2) rfl (pgs_cons (pg_name (i := 5) sc__law_cut.nd rfl (.inl rfl)) (pgs_cons (pg_name (i := 6) sc__law_cut.nd rfl (.inl rfl)) pgs_nil))))
      (pss_one (ps_if (pt_cmpR op_gt (pe_op op_sub (pv 6) (pv 5)) pe_int (nomark _))
        (pss_cons (ps_set (i := 7) sc__law_cut.nd rfl (.inl rfl) (pe_op op_add (pe_op op_add (pv 5) pe_int) (pe_op op_modN (pe_op op_fdivN (pe_call G__law_cell hr rfl T.m__law_cell T.F__law_cell.kp T.b__law_cell .nil pass0 (pa_cons (pv 0) (pa_cons (pe_op op_add (pv 1) (pv 5)) pa_nil))) (pe_op op_add pe_int (pv 6))) (pe_op op_sub (pe_op op_sub (pv 6) (pv 5)) pe_int))))
      (pss_cons (ps_set (i := 4) sc__law_cut.nd rfl (.inl rfl) (pe_op op_cat (pv 4) (pe_lst (pa_cons (pe_tup (pa_cons (pv 5) (pa_cons (pv 7) pa_nil))) (pa_cons (pe_tup (pa_cons (pv 7) (pa_cons (pv 6) pa_nil))) pa_nil)))))
      (pss_one (ps_if (pt_cmpR op_lt (pe_op op_sub (pv 6) (pv 5)) (pe_op op_sub (pv 2) pe_int) (nomark _))
        (pss_one (ps_expr (bmK K PySem.F.plainAttrs_list PySem.F.slot_list_append PySem.F.type_list_append mt_append (pv 3) (pa_cons (pe_tup (pa_cons (pv 5) (pa_cons (pv 6) pa_nil))) pa_nil))))
        pss_nil))))
        pss_nil))))
      (pss_one (ps_ret (pe_callB (sortedDK K hr.units) rfl T.b_sorted (by decide +kernel) (pa_cons (pv 3) pa_nil))))))), ?_⟩
    have hA : ∀ i j, 1 < j - i → i < drawnA ns k i j ∧ drawnA ns k i j < j := fun i j h => ⟨(drawnA_in ns k i j h).1, (drawnA_in ns k i j h).2.1⟩
    have hF := drawn_cut h4 h9 hA
    refine q_asgL (xs := []) (el_lst ea_nil (by simp)) fun l H1 hl e1 hl1 => ?_
    refine qr_asg (er_sides1 (p1 := toLn (0, c - 1)) (eu_tup (ea_cons (ev_c (v := .int 0)) (ea_cons (ev_cast (ev_op (ev_var (v := .int (c : Int)) rfl) ev_c (rv_I0 (g := fun i j => .int (i - j)))) (w := .int ((c - 1 : Nat) : Int)) (by congr 1; omega)) ea_nil)) (by show 2 ≤ 100000; decide))) fun v H2 e2 ⟨t, hv, ht0, ht⟩ => ?_
    · subst hv
      have e02 := e1.trans e2
      refine q_while (fun m σ' H' => ∃ st ls t x5 x6 x7, m = muS st ∧ σ' = [some (.ref a), some (.int (k : Int)), some (.int (c : Int)), some (.ref l), some (.ref t), x5, x6, x7] ∧ Ex H H' ∧ H t = none ∧ l ≠ t ∧ LPH H' l (ls.map toLn) ∧ LPH H' t (st.map toLn).reverse ∧ (∀ p, p ∈ st → p.1 < p.2 ∧ p.2 < c) ∧ ls.length + muS st ≤ 20 ∧ mrun (drawnA ns k) c (muS st) st ls = mrun (drawnA ns k) c (2 * c - 3) [(0, c - 1)] []) (2 * c - 3)
        ⟨[(0, c - 1)], [], t, _, _, _, by simp [muS]; omega, rfl, e02, fresh_back e1 ht0, ne_of_none hl1 ht0, ⟨[], e2 _ _ hl1, .nil⟩, ht, by simp; omega, by simp [muS]; omega, by
          have : muS [(0, c - 1)] = 2 * c - 3 := by simp [muS]; omega
          rw [this]⟩ (fun m σ' H' hW => ?_)
      obtain ⟨st, ls, t, x5, x6, x7, rfl, rfl, eH, ht0, hlt, hl', ht', hst, hsum, hrun⟩ := hW
      refine ⟨_, et_test (ev_op (ev_lenLPH (ev_var rfl) ht') ev_c rv_I0), fun hb H3 e3 => ?_, fun hb H3 e3 => ?_⟩
      · rw [decide_eq_true_eq, List.length_reverse, List.length_map] at hb
        cases st with
        | nil => exact absurd hb (by simp)
        | cons p st =>
          have hp := hst p List.mem_cons_self
          have hstl := muS_len fun q hq => (hst q hq).1
          rw [muS_cons] at hstl hsum hrun ⊢
          have hl3 := hl'.mono e3
          obtain ⟨ms, hm1, hm2⟩ := ht'.mono e3
          rw [List.map_cons, List.reverse_cons] at hm2
          obtain ⟨ms', y, rfl⟩ : ∃ ms' y, ms = ms' ++ [y] := by
            have hlen := hm2.length
            rw [List.length_append] at hlen
            exact ⟨ms.dropLast, ms.getLast (fun z => by subst z; simp at hlen), (List.dropLast_concat_getLast _).symm⟩
          have hsp : Paired (fun x (p : Ln) => H3 x = some (.tup [.int p.1, .int p.2])) ms' (st.map toLn).reverse ∧ H3 y = some (.tup [.int (toLn p).1, .int (toLn p).2]) := by
            have hd := paired_dropLast hm2
            rw [List.dropLast_concat, List.dropLast_concat] at hd
            obtain ⟨z, hz1, hz2⟩ := paired_getL hm2 (i := ms'.length) (x := y) (by simp)
            have hlen := hd.length
            rw [hlen, List.getElem?_append_right (by omega), Nat.sub_self] at hz1
            cases hz1
            exact ⟨hd, hz2⟩
          have e0 : muS st + 1 ≤ 2 * (p.2 - p.1) - 1 + muS st := by omega
          refine ⟨fun σ2 H2 => ∃ m', m' < 2 * (p.2 - p.1) - 1 + muS st ∧ ∃ st ls t x5 x6 x7, m' = muS st ∧ σ2 = [some (.ref a), some (.int (k : Int)), some (.int (c : Int)), some (.ref l), some (.ref t), x5, x6, x7] ∧ Ex H H2 ∧ H t = none ∧ l ≠ t ∧ LPH H2 l (ls.map toLn) ∧ LPH H2 t (st.map toLn).reverse ∧ (∀ p, p ∈ st → p.1 < p.2 ∧ p.2 < c) ∧ ls.length + muS st ≤ 20 ∧ mrun (drawnA ns k) c (muS st) st ls = mrun (drawnA ns k) c (2 * c - 3) [(0, c - 1)] [], fun _ _ h => h, ?_⟩
          -- one, other = todo.pop()
          have hpop : ∀ (Q' : VK), (∀ H4, H4 = upd H3 t (.lst (ms'.map V.ref)) → Q' (.ref y) H4) → tBM0 K "list" rPop (tVar 4) [some (.ref a), some (.int (k : Int)), some (.int (c : Int)), some (.ref l), some (.ref t), x5, x6, x7] H3 Q' := fun Q' q' => by
            refine ⟨.ref t, rfl, .inl ⟨rfl, _, sq_of hm1⟩, t, _, .ref y, rfl, rfl, hm1, ?_, q' _ ?_⟩
            · rw [List.map_append, List.length_append, List.length_map]
              show (ms'.map V.ref ++ [V.ref y])[ms'.length + 1 - 1]? = _
              rw [Nat.add_sub_cancel, List.getElem?_append_right (by simp)]
              simp
            · rw [List.map_append]
              show upd H3 t (.lst (ms'.map V.ref ++ [V.ref y]).dropLast) = _
              rw [List.dropLast_concat]
          refine hpop _ fun H4 hH4 => ?_
          have eH3 := eH.trans e3
          have eH4 : Ex H H4 := hH4 ▸ Ex.mut eH3 ht0
          have hl4 : LPH H4 l (ls.map toLn) := hH4 ▸ hl3.upd hlt hm1
          have hyt : y ≠ t := fun z => by
            have := hsp.2
            rw [z, hm1] at this
            cases this
          have hy4 : H4 y = some (.tup [.int (toLn p).1, .int (toLn p).2]) := by rw [hH4, upd_ne hyt]; exact hsp.2
          have ht4 : LPH H4 t (st.map toLn).reverse := by
            refine ⟨ms', by rw [hH4, upd_same], paired_mono hsp.1 fun z u hz => ?_⟩
            rw [hH4, upd_ne]
            · exact hz
            · intro e
              rw [e, hm1] at hz
              cases hz
          clear hpop hH4
          refine ⟨y, _, rfl, st_of hy4, rfl, _, _, rfl, _, _, rfl, rfl, ?_⟩
          have htl : (toLn p).1 = (p.1 : Int) := rfl
          have htl2 : (toLn p).2 = (p.2 : Int) := rfl
          rw [htl, htl2]
          refine s_when (et_test (ev_op (ev_op (ev_var (v := .int (p.2 : Int)) rfl) (ev_var (v := .int (p.1 : Int)) rfl) (rv_I0 (g := fun i j => .int (i - j)))) ev_c rv_I0)) (fun hb2 H5 e5 => ?_) (fun hb2 H5 e5 => ?_)
          · rw [decide_eq_true_eq] at hb2
            have hb2 : 1 < p.2 - p.1 := by omega
            obtain ⟨d1, d2, d3⟩ := drawnA_in ns k p.1 p.2 hb2
            have hL5 := hL.mono (eH4.trans e5)
            have hev : Ev (tOp (rI0 fun i j => .int (i + j)) (tOp (rI0 fun i j => .int (i + j)) (tVar 5) (tC (.int 1))) (tOp (rI (fun _ j => j ≠ 0) fun i j => .int (i.fmod j)) (tOp (rI CDivN fun i j => .int (i.fdiv j)) (tCall (sp__law_cell K) [] E0 (tCons (tVar 0) (tCons (tOp (rI0 fun i j => .int (i + j)) (tVar 1) (tVar 5)) tNil))) (tOp (rI0 fun i j => .int (i + j)) (tC (.int 1)) (tVar 6))) (tOp (rI0 fun i j => .int (i - j)) (tOp (rI0 fun i j => .int (i - j)) (tVar 6) (tVar 5)) (tC (.int 1)))))
                [some (.ref a), some (.int (k : Int)), some (.int (c : Int)), some (.ref l), some (.ref t), some (.int (p.1 : Int)), some (.int (p.2 : Int)), x7] H5 (.int ((drawnA ns k p.1 p.2 : Nat) : Int)) := by
              rw [d3]
              have hki : ((k : Int) + (p.1 : Int)) = ((k + p.1 : Nat) : Int) := by omega
              refine ev_op (ev_op (ev_var rfl) ev_c rv_I0) (ev_mod (ev_div (ev_cv (j := k + p.1) hL5 (ea_cons (ev_var rfl) (ea_cons (ev_cast (ev_op (ev_var (v := .int (k : Int)) rfl) (ev_var (v := .int (p.1 : Int)) rfl) (rv_I0 (g := fun i j => .int (i + j)))) (by rw [hki])) ea_nil)) (by omega)) (ev_op ev_c (ev_var rfl) rv_I0) (by omega) (by omega)) (ev_op (ev_op (ev_var rfl) (ev_var rfl) rv_I0) ev_c rv_I0) (by omega)) rv_I0
            refine q_asg hev fun H6 e6 => ?_
            generalize hm : drawnA ns k p.1 p.2 = m at *
            have hl6 := (hl4.mono e5).mono e6
            have hst6 : ((st.map toLn).reverse).length ≤ 100 := by
              rw [List.length_reverse, List.length_map]
              rw [List.length_cons] at hstl
              omega
            refine qr_asg (er_catP (t := t) (ss := (st.map toLn).reverse) (ev_var rfl) ((ht4.mono e5).mono e6) (er_sides2 (p1 := toLn (p.1, m)) (p2 := toLn (m, p.2)) (eu_tup (ea_cons (ev_var rfl) (ea_cons (ev_var rfl) ea_nil)) (by show 2 ≤ 100000; decide)) (eu_tup (ea_cons (ev_var rfl) (ea_cons (ev_var rfl) ea_nil)) (by show 2 ≤ 100000; decide))) (by show _ + 2 ≤ 10000; omega)) fun v H7 e7 ⟨t', hv, ht'0, ht'7⟩ => ?_
            have e1' : (((m, p.2) :: (p.1, m) :: st).map toLn).reverse = (st.map toLn).reverse ++ [toLn (p.1, m), toLn (m, p.2)] := by simp
            rw [← e1'] at ht'7
            · subst hv
              have e57 := (e5.trans e6).trans e7
              have eH7 := eH4.trans e57
              have hl7 := hl6.mono e7
              have hmu : muS ((m, p.2) :: (p.1, m) :: st) = 2 * (p.2 - p.1) - 2 + muS st := by
                rw [muS_cons, muS_cons]
                dsimp only
                omega
              have hstn : ∀ q, q ∈ (m, p.2) :: (p.1, m) :: st → q.1 < q.2 ∧ q.2 < c := fun q hq => by
                rcases List.mem_cons.mp hq with rfl | hq
                · exact ⟨d2, hp.2⟩
                · rcases List.mem_cons.mp hq with rfl | hq
                  · exact ⟨d1, by dsimp only; omega⟩
                  · exact hst q (List.mem_cons_of_mem _ hq)
              have hrn : mrun (drawnA ns k) c (muS ((m, p.2) :: (p.1, m) :: st)) ((m, p.2) :: (p.1, m) :: st) (if p.2 - p.1 < c - 1 then ls ++ [p] else ls) = mrun (drawnA ns k) c (2 * c - 3) [(0, c - 1)] [] := by
                rw [← hrun, hmu]
                have : 2 * (p.2 - p.1) - 1 + muS st = (2 * (p.2 - p.1) - 2 + muS st) + 1 := by omega
                rw [this]
                show _ = (if 1 < p.2 - p.1 then _ else _)
                rw [if_pos hb2, hm]
              have hlt' : l ≠ t' := by
                obtain ⟨ms7, h7, _⟩ := hl6
                exact ne_of_none h7 ht'0
              have ht'H : H t' = none := fresh_back ((eH4.trans e5).trans e6) ht'0
              refine s_when (et_test (ev_op (ev_op (ev_var (v := .int (p.2 : Int)) rfl) (ev_var (v := .int (p.1 : Int)) rfl) (rv_I0 (g := fun i j => .int (i - j)))) (ev_op (ev_var (v := .int (c : Int)) rfl) ev_c (rv_I0 (g := fun i j => .int (i - j)))) rv_I0)) (fun hb3 H8 e8 => ?_) (fun hb3 H8 e8 => ?_)
              · rw [decide_eq_true_eq] at hb3
                rw [if_pos (by omega)] at hrn
                obtain ⟨vs, hv1, hv2, hv3⟩ := (hl7.mono e8).push (p := toLn p)
                refine s_appU hv1 (ev_var rfl) (eu_tup (ea_cons (ev_var (v := .int (p.1 : Int)) rfl) (ea_cons (ev_var (v := .int (p.2 : Int)) rfl) ea_nil)) (by show 2 ≤ 100000; decide)) (by rw [hv2, List.length_map]; omega) fun y9 H9 hy9 e9 hy9' => ?_
                refine ⟨_, by rw [hmu]; omega, _, _, t', _, _, _, rfl, rfl, Ex.mut ((eH7.trans e8).trans e9) hl, ht'H, hlt', ?_, ((ht'7.mono e8).mono e9).upd hlt'.symm (e9 _ _ hv1), hstn, ?_, hrn⟩
                · rw [List.map_append]
                  exact hv3 H9 y9 e9 hy9'
                · rw [hmu, List.length_append]
                  show _ + 1 + _ ≤ 20
                  omega
              · rw [decide_eq_false_iff_not] at hb3
                rw [if_neg (by omega)] at hrn
                refine ⟨_, by rw [hmu]; omega, _, _, t', _, _, _, rfl, rfl, eH7.trans e8, ht'H, hlt', hl7.mono e8, ht'7.mono e8, hstn, ?_, hrn⟩
                rw [hmu]
                omega
          · rw [decide_eq_false_iff_not] at hb2
            refine ⟨muS st, by omega, st, ls, t, _, _, _, rfl, rfl, eH4.trans e5, ht0, hlt, hl4.mono e5, ht4.mono e5, fun q hq => hst q (List.mem_cons_of_mem _ hq), by omega, ?_⟩
            rw [← hrun]
            have : 2 * (p.2 - p.1) - 1 + muS st = muS st + 1 := by omega
            rw [this]
            show _ = (if 1 < p.2 - p.1 then _ else _)
            rw [if_neg (by omega)]
      · rw [decide_eq_false_iff_not, List.length_reverse, List.length_map] at hb
        have : st = [] := List.length_eq_zero_iff.mp (by omega)
        subst this
        have hrun : ls = mrun (drawnA ns k) c (2 * c - 3) [(0, c - 1)] [] := hrun
        rw [← hrun] at hF
        have hl3 := hl'.mono e3
        refine sr_ret (er_sortedP (ls := ls.map toLn) (er_LP (ev_var (v := .ref l) rfl) hl3.lp) (fun G1 G2 v hv => hv) ?_) fun v H5 e5 ⟨p, hv, hO⟩ => ?_
        · rw [List.length_map]
          have : muS ([] : List NL) = 0 := rfl
          omega
        · subst hv
          exact q _ H5 p ((eH.trans e3).trans e5) hF (hO.back (eH.trans e3))
end
end AT

/-! ## the form of a cut, line by line: an arrow from p to q -/
namespace AT
open PySem PySem.Spec PyProof.Rows L2 Evl
def b2i (b : Bool) : Int := if b = true then 1 else 0
theorem b2i_t : b2i true = 1 := rfl
theorem b2i_f : b2i false = 0 := rfl
def eqN (p q : NL) : Bool := Nat.beq p.1 q.1 && Nat.beq p.2 q.2
theorem eqN_iff {p q : NL} : eqN p q = true ↔ p = q := by
  unfold eqN
  simp only [Bool.and_eq_true, Nat.beq_eq]
  exact ⟨fun h => Prod.ext h.1 h.2, fun h => by rw [h]; exact ⟨rfl, rfl⟩⟩
theorem toLn_inj {p q : NL} : toLn p = toLn q ↔ p = q := by
  unfold toLn
  simp only [Prod.mk.injEq]
  constructor
  · rintro ⟨h1, h2⟩
    exact Prod.ext (by omega) (by omega)
  · rintro rfl
    exact ⟨rfl, rfl⟩
def arrN (n : Nat) (s : List NL) (p q : NL) : Bool := (Nat.beq p.2 q.1 && sideN n s p.1 q.2) || ((Nat.beq p.2 q.2 && (Nat.blt q.1 p.1 && sideN n s q.1 p.1)) || (Nat.beq p.1 q.1 && (Nat.blt q.2 p.2 && sideN n s q.2 p.2)))
/-- the sides of a triangle, in the rings' own numbers -/
def pairsN (t : Tr) : List (NL × NL) := [((t.1, t.2.1), (t.2.1, t.2.2)), ((t.2.1, t.2.2), (t.1, t.2.2)), ((t.1, t.2.2), (t.1, t.2.1))]
theorem triPairs_nat (t : Tr) : triPairs t = (pairsN t).map fun z => (toLn z.1, toLn z.2) := rfl
/-- how many of the arrows are from p to q -/
def cntP (l : List (NL × NL)) (p q : NL) : Int := (l.map fun z => b2i (eqN z.1 p && eqN z.2 q)).sum
theorem cntP_cons (z : NL × NL) (l : List (NL × NL)) (p q : NL) : cntP (z :: l) p q = b2i (eqN z.1 p && eqN z.2 q) + cntP l p q := by unfold cntP; rw [List.map_cons, List.sum_cons]
section
variable {s : List NL} (hnd : s.Nodup)
include hnd
theorem idx_toLn {p : NL} {i : Nat} (hi : i < s.length) (hp : p ∈ s) : (s.map toLn).idxOf (toLn p) = i ↔ p = s[i] := by
  have hm : toLn p ∈ s.map toLn := List.mem_map.mpr ⟨p, hp, rfl⟩
  have hl := List.idxOf_lt_length_iff.mpr hm
  have hg := List.getElem_idxOf hl
  rw [List.getElem_map, toLn_inj] at hg
  have hl' : (s.map toLn).idxOf (toLn p) < s.length := by rw [List.length_map] at hl; exact hl
  constructor
  · intro e
    subst e
    exact hg.symm
  · intro e
    have : s[(s.map toLn).idxOf (toLn p)] = s[i] := by rw [hg, e]
    exact (List.getElem_inj hnd).mp this
theorem pair_val {f : Nat → Nat → Int} {p q : NL} {x y : Nat} (hx : x < s.length) (hy : y < s.length) (hpq : p ≠ q) :
    pairStep (s.map toLn) f (toLn p, toLn q) x y = f x y + b2i (eqN p s[x] && eqN q s[y]) - b2i (eqN p s[y] && eqN q s[x]) := by
  by_cases hm : p ∈ s ∧ q ∈ s
  · obtain ⟨hp, hq⟩ := hm
    have hmp : toLn p ∈ s.map toLn := List.mem_map.mpr ⟨p, hp, rfl⟩
    have hmq : toLn q ∈ s.map toLn := List.mem_map.mpr ⟨q, hq, rfl⟩
    rw [pair_in (by rw [decide_eq_true hmp, decide_eq_true hmq]; rfl)]
    have a1 := idx_toLn hnd hx hp
    have a2 := idx_toLn hnd hy hq
    have a3 := idx_toLn hnd hx hq
    have a4 := idx_toLn hnd hy hp
    have hne : (s.map toLn).idxOf (toLn p) ≠ (s.map toLn).idxOf (toLn q) := fun e => by
      have hl : (s.map toLn).idxOf (toLn q) < s.length := by
        have := List.idxOf_lt_length_iff.mpr hmq
        rw [List.length_map] at this
        exact this
      have b1 := (idx_toLn hnd hl hp).mp e
      have b2 := (idx_toLn hnd hl hq).mp rfl
      exact hpq (b1.trans b2.symm)
    generalize (s.map toLn).idxOf (toLn p) = i at *
    generalize (s.map toLn).idxOf (toLn q) = j at *
    have b1 : (eqN p s[x] && eqN q s[y]) = decide (x = i ∧ y = j) := by
      rw [Bool.eq_iff_iff, Bool.and_eq_true, eqN_iff, eqN_iff, decide_eq_true_eq, ← a1, ← a2]
      exact ⟨fun h => ⟨h.1.symm, h.2.symm⟩, fun h => ⟨h.1.symm, h.2.symm⟩⟩
    have b2 : (eqN p s[y] && eqN q s[x]) = decide (x = j ∧ y = i) := by
      rw [Bool.eq_iff_iff, Bool.and_eq_true, eqN_iff, eqN_iff, decide_eq_true_eq, ← a3, ← a4]
      exact ⟨fun h => ⟨h.2.symm, h.1.symm⟩, fun h => ⟨h.2.symm, h.1.symm⟩⟩
    rw [b1, b2]
    unfold setF b2i
    simp only [decide_eq_true_eq]
    by_cases c1 : x = i ∧ y = j
    · obtain ⟨rfl, rfl⟩ := c1
      rw [if_neg (fun z => hne z.1), if_pos ⟨rfl, rfl⟩, if_pos ⟨rfl, rfl⟩, if_neg (fun z => hne z.1)]
      omega
    · by_cases c2 : x = j ∧ y = i
      · obtain ⟨rfl, rfl⟩ := c2
        rw [if_pos ⟨rfl, rfl⟩, if_neg c1, if_neg c1, if_pos ⟨rfl, rfl⟩]
        omega
      · rw [if_neg c2, if_neg c1, if_neg c1, if_neg c2]
        omega
  · have h1 : ¬ (toLn p ∈ s.map toLn ∧ toLn q ∈ s.map toLn) := fun z => hm ⟨by
      obtain ⟨u, hu, e⟩ := List.mem_map.mp z.1
      rw [toLn_inj] at e
      exact e ▸ hu, by
      obtain ⟨u, hu, e⟩ := List.mem_map.mp z.2
      rw [toLn_inj] at e
      exact e ▸ hu⟩
    have e1 : pairStep (s.map toLn) f (toLn p, toLn q) = f := if_neg h1
    have b1 : (eqN p s[x] && eqN q s[y]) = false := by
      rw [← Bool.not_eq_true, Bool.and_eq_true, eqN_iff, eqN_iff]
      exact fun z => hm ⟨z.1 ▸ List.getElem_mem hx, z.2 ▸ List.getElem_mem hy⟩
    have b2 : (eqN p s[y] && eqN q s[x]) = false := by
      rw [← Bool.not_eq_true, Bool.and_eq_true, eqN_iff, eqN_iff]
      exact fun z => hm ⟨z.1 ▸ List.getElem_mem hy, z.2 ▸ List.getElem_mem hx⟩
    rw [e1, b1, b2, b2i_f]
    omega
theorem pairs_val {x y : Nat} (hx : x < s.length) (hy : y < s.length) : ∀ (l : List (NL × NL)) (f : Nat → Nat → Int), (∀ z, z ∈ l → z.1 ≠ z.2) → ((l.map fun z => (toLn z.1, toLn z.2)).foldl (pairStep (s.map toLn)) f) x y = f x y + cntP l s[x] s[y] - cntP l s[y] s[x]
  | [], f, _ => by simp [cntP]
  | z :: l, f, h => by
    rw [List.map_cons, List.foldl_cons, pairs_val hx hy l _ fun w hw => h w (List.mem_cons_of_mem _ hw), pair_val hnd hx hy (h z List.mem_cons_self), cntP_cons, cntP_cons]
    omega
def cntT (t : Tr) (p q : NL) : Int := cntP (pairsN t) p q
theorem tri_val {f : Nat → Nat → Int} {x y : Nat} (hx : x < s.length) (hy : y < s.length) {t : Tr} (ht : t.1 < t.2.1 ∧ t.2.1 < t.2.2) : triStep (s.map toLn) f t x y = f x y + cntP (pairsN t) s[x] s[y] - cntP (pairsN t) s[y] s[x] := by
  unfold triStep
  rw [triPairs_nat]
  refine pairs_val hnd hx hy (pairsN t) f fun z hz => ?_
  unfold pairsN at hz
  simp only [List.mem_cons, List.mem_singleton, List.not_mem_nil, or_false] at hz
  rcases hz with rfl | rfl | rfl
  all_goals
    intro e
    simp only [Prod.mk.injEq] at e
    omega
theorem tris_val {x y : Nat} (hx : x < s.length) (hy : y < s.length) : ∀ (l : List Tr) (f : Nat → Nat → Int), (∀ t, t ∈ l → t.1 < t.2.1 ∧ t.2.1 < t.2.2) → (l.foldl (triStep (s.map toLn)) f) x y = f x y + (l.map fun t => cntP (pairsN t) s[x] s[y]).sum - (l.map fun t => cntP (pairsN t) s[y] s[x]).sum
  | [], f, _ => by simp
  | t :: l, f, h => by
    rw [List.foldl_cons, tris_val hx hy l _ fun w hw => h w (List.mem_cons_of_mem _ hw), tri_val hnd hx hy (h t List.mem_cons_self), List.map_cons, List.map_cons, List.sum_cons, List.sum_cons]
    omega
end
/-- the one triangle in which p is followed by q -/
def candN (p q : NL) : Option Tr := if p.2 = q.1 then some (p.1, p.2, q.2) else if p.2 = q.2 ∧ q.1 < p.1 then some (q.1, p.1, p.2) else if p.1 = q.1 ∧ q.2 < p.2 then some (p.1, q.2, p.2) else none
theorem cnt_cand {t : Tr} {p q : NL} (ht : t.1 < t.2.1 ∧ t.2.1 < t.2.2) (hp : p.1 < p.2) (hq : q.1 < q.2) : cntP (pairsN t) p q = b2i (decide (candN p q = some t)) := by
  obtain ⟨a, b, c⟩ := t
  obtain ⟨x, y⟩ := p
  obtain ⟨z, w⟩ := q
  dsimp only at ht hp hq
  unfold pairsN cntP
  simp only [List.map_cons, List.map_nil, List.sum_cons, List.sum_nil, Int.add_zero]
  have e1 : (eqN (a, b) (x, y) && eqN (b, c) (z, w)) = decide ((a = x ∧ b = y) ∧ b = z ∧ c = w) := by
    rw [Bool.eq_iff_iff, Bool.and_eq_true, eqN_iff, eqN_iff, decide_eq_true_eq, Prod.mk.injEq, Prod.mk.injEq]
  have e2 : (eqN (b, c) (x, y) && eqN (a, c) (z, w)) = decide ((b = x ∧ c = y) ∧ a = z ∧ c = w) := by
    rw [Bool.eq_iff_iff, Bool.and_eq_true, eqN_iff, eqN_iff, decide_eq_true_eq, Prod.mk.injEq, Prod.mk.injEq]
  have e3 : (eqN (a, c) (x, y) && eqN (a, b) (z, w)) = decide ((a = x ∧ c = y) ∧ a = z ∧ b = w) := by
    rw [Bool.eq_iff_iff, Bool.and_eq_true, eqN_iff, eqN_iff, decide_eq_true_eq, Prod.mk.injEq, Prod.mk.injEq]
  rw [e1, e2, e3]
  have e4 : decide (candN (x, y) (z, w) = some (a, b, c)) = decide ((y = z ∧ x = a ∧ y = b ∧ w = c) ∨ (y ≠ z ∧ (y = w ∧ z < x) ∧ z = a ∧ x = b ∧ y = c) ∨ (y ≠ z ∧ ¬ (y = w ∧ z < x) ∧ (x = z ∧ w < y) ∧ x = a ∧ w = b ∧ y = c)) := by
    rw [decide_eq_decide]
    unfold candN
    dsimp only
    by_cases c1 : y = z
    · rw [if_pos c1]
      simp only [Option.some.injEq, Prod.mk.injEq]
      omega
    · rw [if_neg c1]
      by_cases c2 : y = w ∧ z < x
      · rw [if_pos c2]
        simp only [Option.some.injEq, Prod.mk.injEq]
        omega
      · rw [if_neg c2]
        by_cases c3 : x = z ∧ w < y
        · rw [if_pos c3]
          simp only [Option.some.injEq, Prod.mk.injEq]
          omega
        · rw [if_neg c3]
          simp only [reduceCtorEq, false_iff]
          omega
  rw [e4]
  unfold b2i
  simp only [decide_eq_true_eq]
  by_cases d1 : (a = x ∧ b = y) ∧ b = z ∧ c = w
  · rw [if_pos d1, if_neg (by omega), if_neg (by omega), if_pos (by omega)]
    rfl
  · rw [if_neg d1]
    by_cases d2 : (b = x ∧ c = y) ∧ a = z ∧ c = w
    · rw [if_pos d2, if_neg (by omega), if_pos (by omega)]
      rfl
    · rw [if_neg d2]
      by_cases d3 : (a = x ∧ c = y) ∧ a = z ∧ b = w
      · rw [if_pos d3, if_pos (by omega)]
        rfl
      · rw [if_neg d3, if_neg (by omega)]
        rfl
theorem sum_one : ∀ (l : List Tr) (o : Option Tr), l.Nodup → (l.map fun t => b2i (decide (o = some t))).sum = b2i (decide (∃ t, o = some t ∧ t ∈ l))
  | [], o, _ => by
    have : ¬ ∃ t, o = some t ∧ t ∈ ([] : List Tr) := fun ⟨t, _, h⟩ => by cases h
    rw [decide_eq_false this]; rfl
  | t :: l, o, h => by
    rw [List.nodup_cons] at h
    rw [List.map_cons, List.sum_cons, sum_one l o h.2]
    by_cases c1 : o = some t
    · have h2 : ¬ ∃ u, o = some u ∧ u ∈ l := fun ⟨u, e, hu⟩ => by
        rw [c1] at e
        cases e
        exact h.1 hu
      have h3 : ∃ u, o = some u ∧ u ∈ t :: l := ⟨t, c1, List.mem_cons_self⟩
      rw [decide_eq_true c1, decide_eq_false h2, decide_eq_true h3]
      rfl
    · have h3 : (∃ u, o = some u ∧ u ∈ t :: l) ↔ ∃ u, o = some u ∧ u ∈ l := ⟨fun ⟨u, e, hu⟩ => by
        rcases List.mem_cons.mp hu with rfl | hu
        · exact absurd e c1
        · exact ⟨u, e, hu⟩, fun ⟨u, e, hu⟩ => ⟨u, e, List.mem_cons_of_mem _ hu⟩⟩
      rw [decide_eq_false c1, decide_eq_decide.mpr h3, b2i_f]
      omega
theorem tris_nodup {n : Nat} {ls : List Ln} : (tris n ls).Nodup := by
  unfold tris tri3
  refine List.pairwise_flatMap.mpr ⟨fun a _ => ?_, List.nodup_range.imp fun {a a'} hne x hx y hy => ?_⟩
  · unfold tri2
    refine List.pairwise_flatMap.mpr ⟨fun b _ => ?_, (List.nodup_range' (step := 1)).imp fun {b b'} hne x hx y hy => ?_⟩
    · unfold tri1
      rw [List.pairwise_map]
      refine ((List.nodup_range' (step := 1)).filter _).imp fun {c c'} hne => ?_
      intro e
      simp only [Prod.mk.injEq] at e
      exact hne e.2.2
    · unfold tri1 at hx hy
      obtain ⟨c, _, rfl⟩ := List.mem_map.mp hx
      obtain ⟨c', _, rfl⟩ := List.mem_map.mp hy
      intro e
      simp only [Prod.mk.injEq] at e
      exact hne e.2.1
  · unfold tri2 tri1 at hx hy
    obtain ⟨b, _, hx⟩ := List.mem_flatMap.mp hx
    obtain ⟨b', _, hy⟩ := List.mem_flatMap.mp hy
    obtain ⟨c, _, rfl⟩ := List.mem_map.mp hx
    obtain ⟨c', _, rfl⟩ := List.mem_map.mp hy
    intro e
    simp only [Prod.mk.injEq] at e
    exact hne e.1
theorem sideN_mem {n : Nat} {s : List NL} {p : NL} (h : p ∈ s) : sideN n s p.1 p.2 = true := by
  rw [sideN_eq]
  exact sideN_of h
theorem arr_cand {n : Nat} {s : List NL} {p q : NL} (hp : p ∈ s) (hq : q ∈ s) (h1 : p.1 < p.2 ∧ p.2 < n) (h2 : q.1 < q.2 ∧ q.2 < n) : decide (∃ t, candN p q = some t ∧ t ∈ tris n (s.map toLn)) = arrN n s p q := by
  have sp := sideN_mem (n := n) hp
  have sq := sideN_mem (n := n) hq
  have htri : ∀ a b c : Nat, triB n (s.map toLn) a b c = (sideN n s a b && (sideN n s b c && sideN n s a c)) := fun a b c => by unfold triB; rw [sideN_eq, sideN_eq, sideN_eq]
  unfold candN arrN
  rw [Bool.eq_iff_iff, decide_eq_true_eq]
  simp only [Bool.or_eq_true, Bool.and_eq_true, Nat.beq_eq, Nat.blt_eq]
  by_cases c1 : p.2 = q.1
  · rw [if_pos c1]
    have e1 : (∃ t, some (p.1, p.2, q.2) = some t ∧ t ∈ tris n (s.map toLn)) ↔ sideN n s p.1 q.2 = true := by
      constructor
      · rintro ⟨t, e, ht⟩
        cases e
        rw [tris_mem, htri] at ht
        simp only [Bool.and_eq_true] at ht
        exact ht.2.2.2.2.2
      · intro h
        refine ⟨_, rfl, tris_mem.mpr ⟨by omega, by omega, by omega, ?_⟩⟩
        rw [htri, sp, h, c1, sq]
        rfl
    rw [e1]
    constructor
    · exact fun h => .inl ⟨c1, h⟩
    · rintro (⟨_, h⟩ | ⟨e, _⟩ | ⟨e, _⟩)
      · exact h
      · omega
      · omega
  · rw [if_neg c1]
    by_cases c2 : p.2 = q.2 ∧ q.1 < p.1
    · rw [if_pos c2]
      have e1 : (∃ t, some (q.1, p.1, p.2) = some t ∧ t ∈ tris n (s.map toLn)) ↔ sideN n s q.1 p.1 = true := by
        constructor
        · rintro ⟨t, e, ht⟩
          cases e
          rw [tris_mem, htri] at ht
          simp only [Bool.and_eq_true] at ht
          exact ht.2.2.2.1
        · intro h
          refine ⟨_, rfl, tris_mem.mpr ⟨by omega, by omega, by omega, ?_⟩⟩
          rw [htri, sp, h, c2.1, sq]
          rfl
      rw [e1]
      constructor
      · exact fun h => .inr (.inl ⟨c2.1, c2.2, h⟩)
      · rintro (⟨e, _⟩ | ⟨_, _, h⟩ | ⟨e, e2, _⟩)
        · exact absurd e c1
        · exact h
        · omega
    · rw [if_neg c2]
      by_cases c3 : p.1 = q.1 ∧ q.2 < p.2
      · rw [if_pos c3]
        have e1 : (∃ t, some (p.1, q.2, p.2) = some t ∧ t ∈ tris n (s.map toLn)) ↔ sideN n s q.2 p.2 = true := by
          constructor
          · rintro ⟨t, e, ht⟩
            cases e
            rw [tris_mem, htri] at ht
            simp only [Bool.and_eq_true] at ht
            exact ht.2.2.2.2.1
          · intro h
            refine ⟨_, rfl, tris_mem.mpr ⟨by omega, by omega, by omega, ?_⟩⟩
            rw [htri, sp, h, c3.1, sq]
            rfl
        rw [e1]
        constructor
        · exact fun h => .inr (.inr ⟨c3.1, c3.2, h⟩)
        · rintro (⟨e, _⟩ | ⟨e, e2, _⟩ | ⟨_, _, h⟩)
          · exact absurd e c1
          · exact absurd ⟨e, e2⟩ c2
          · exact h
      · rw [if_neg c3]
        constructor
        · rintro ⟨t, e, _⟩
          cases e
        · rintro (⟨e, _⟩ | ⟨e, e2, _⟩ | ⟨e, e2, _⟩)
          · exact absurd e c1
          · exact absurd ⟨e, e2⟩ c2
          · exact absurd ⟨e, e2⟩ c3
/-- the form's number at two lines -/
def frmN (n : Nat) (s : List NL) (p q : NL) : Int := b2i (arrN n s p q) - b2i (arrN n s q p)
theorem form_arrow {n : Nat} {s : List NL} (hnd : s.Nodup) (hs : ∀ p, p ∈ s → p.1 < p.2 ∧ p.2 < n) {x y : Nat} (hx : x < s.length) (hy : y < s.length) : formF n (s.map toLn) x y = frmN n s s[x] s[y] := by
  have ht : ∀ t, t ∈ tris n (s.map toLn) → t.1 < t.2.1 ∧ t.2.1 < t.2.2 := fun t h => by
    obtain ⟨a, b, c⟩ := t
    have := tris_mem.mp h
    exact ⟨this.1, this.2.1⟩
  have key : ∀ {p q : NL}, p ∈ s → q ∈ s → ((tris n (s.map toLn)).map fun t => cntP (pairsN t) p q).sum = b2i (arrN n s p q) := fun {p q} hp hq => by
    have : ((tris n (s.map toLn)).map fun t => cntP (pairsN t) p q) = (tris n (s.map toLn)).map fun t => b2i (decide (candN p q = some t)) := List.map_congr_left fun t h => cnt_cand (ht t h) (hs p hp).1 (hs q hq).1
    rw [this, sum_one _ _ tris_nodup, arr_cand hp hq (hs p hp) (hs q hq)]
  unfold formF
  rw [tris_val hnd hx hy _ _ ht, key (List.getElem_mem hx) (List.getElem_mem hy), key (List.getElem_mem hy) (List.getElem_mem hx)]
  unfold frmN
  omega
theorem arr_excl {n : Nat} {s : List NL} {p q : NL} (h1 : p.1 < p.2) (h2 : q.1 < q.2) (h : arrN n s p q = true) : arrN n s q p = false := by
  rw [← Bool.not_eq_true]
  intro h'
  unfold arrN at h h'
  simp only [Bool.or_eq_true, Bool.and_eq_true, Nat.beq_eq, Nat.blt_eq] at h h'
  rcases h with ⟨e1, _⟩ | ⟨e1, e2, _⟩ | ⟨e1, e2, _⟩ <;> rcases h' with ⟨e3, _⟩ | ⟨e3, e4, _⟩ | ⟨e3, e4, _⟩ <;> omega
end AT

/-! ## dicts whose keys are matrices: tuples of tuples of ints -/
namespace AT
open PySem PySem.Spec PyProof.Rows L2 Evl
abbrev Ent := Mat × Addr × Addr
def DDp (P : Program) (w : World) (d : Addr) (xs : List (NestedKey × Addr × Value)) (h : Heap) : Prop :=
  ∃ o es ep, h.get? d = some o ∧ o.ExactDict ∧ o.data = .dict es ep ∧ es.toList = xs.map (entryOfKey (nestedKind P w)) ∧ (xs.map (·.1)).Nodup
def DD (P : Program) (w : World) (d : Addr) (xs : List (NestedKey × Addr × Value)) : HO := .ext (DDp P w d xs)
def keyN (M : Mat) : NestedKey := .tup (M.map fun r => .tup (r.map NestedKey.num))
theorem num_inj : ∀ {xs ys : List Int}, xs.map NestedKey.num = ys.map NestedKey.num → xs = ys
  | [], [], _ => rfl
  | [], _ :: _, h => by simp at h
  | _ :: _, [], h => by simp at h
  | x :: xs, y :: ys, h => by
    rw [List.map_cons, List.map_cons] at h
    injection h with h1 h2
    injection h1 with h1
    rw [h1, num_inj h2]
theorem rows_inj : ∀ {M N : Mat}, (M.map fun r => NestedKey.tup (r.map NestedKey.num)) = (N.map fun r => NestedKey.tup (r.map NestedKey.num)) → M = N
  | [], [], _ => rfl
  | [], _ :: _, h => by simp at h
  | _ :: _, [], h => by simp at h
  | x :: xs, y :: ys, h => by
    rw [List.map_cons, List.map_cons] at h
    injection h with h1 h2
    injection h1 with h1
    rw [num_inj h1, rows_inj h2]
theorem keyN_inj {M N : Mat} : keyN M = keyN N ↔ M = N := ⟨fun h => by
  unfold keyN at h
  injection h with h
  exact rows_inj h, fun h => by rw [h]⟩
theorem depth_nums : ∀ r : List Int, NestedKey.depthAll (r.map NestedKey.num) = 0
  | [] => by simp [NestedKey.depthAll]
  | x :: r => by rw [List.map_cons, NestedKey.depthAll, NestedKey.depth, depth_nums r]; rfl
theorem depth_rowsN : ∀ M : Mat, NestedKey.depthAll (M.map fun r => .tup (r.map NestedKey.num)) ≤ 1
  | [] => by simp [NestedKey.depthAll]
  | r :: M => by
    have h := depth_rowsN M
    rw [List.map_cons, NestedKey.depthAll, NestedKey.depth, depth_nums]
    omega
theorem keyN_depth (M : Mat) : (keyN M).depth ≤ 8 := by
  unfold keyN
  rw [NestedKey.depth]
  have := depth_rowsN M
  omega
/-- a tuple of tuples of ints -/
def KT (H : Hp) (b : Addr) (M : Mat) : Prop := ∃ as : List Addr, H b = some (.tup (as.map V.ref)) ∧ Paired (fun x r => H x = some (.tup (r.map V.int))) as M
theorem KT.mono {H H1 : Hp} {b : Addr} {M : Mat} (e : Ex H H1) (h : KT H b M) : KT H1 b M := by
  obtain ⟨as, h1, h2⟩ := h
  exact ⟨as, e _ _ h1, paired_mono h2 fun _ _ z => e _ _ z⟩
theorem KT.keep {H H1 : Hp} {b : Addr} {M : Mat} (e : ∀ y vs, H y = some (.tup vs) → H1 y = some (.tup vs)) (h : KT H b M) : KT H1 b M := by
  obtain ⟨as, h1, h2⟩ := h
  exact ⟨as, e _ _ h1, paired_mono h2 fun _ _ z => e _ _ z⟩
def xsOf (es : List Ent) : List (NestedKey × Addr × Value) := es.map fun e => (keyN e.1, e.2.1, Value.ref e.2.2)
/-- the dict's entries: matrix, key, value -/
def DW (P : Program) (w : World) (H : Hp) (d : Addr) (es : List Ent) : Prop := H d = some (DD P w d (xsOf es)) ∧ (d == sysModules) = false ∧ ∀ e, e ∈ es → KT H e.2.1 e.1
theorem DW.mono {P : Program} {w : World} {H H1 : Hp} {d : Addr} {es : List Ent} (e : Ex H H1) (h : DW P w H d es) : DW P w H1 d es := ⟨e _ _ h.1, h.2.1, fun x hx => (h.2.2 x hx).mono e⟩
theorem DW.push {P : Program} {w : World} {H : Hp} {d b a : Addr} {es : List Ent} {M : Mat} (h : DW P w H d es) (hk : KT H b M) : DW P w (upd H d (DD P w d (xsOf (es ++ [(M, b, a)])))) d (es ++ [(M, b, a)]) := by
  have ne : ∀ y vs, H y = some (.tup vs) → upd H d (DD P w d (xsOf (es ++ [(M, b, a)]))) y = some (.tup vs) := fun y vs hy => by
    rw [upd_ne]
    · exact hy
    · intro e
      subst e
      rw [h.1] at hy
      cases hy
  refine ⟨upd_same, h.2.1, fun x hx => ?_⟩
  rcases List.mem_append.mp hx with hx | hx
  · exact (h.2.2 x hx).keep ne
  · rw [List.mem_singleton] at hx
    subst hx
    exact hk.keep ne
theorem DD_new {P : Program} {w : World} {H : Hp} {h : Heap} {d : Addr} {xs : List (NestedKey × Addr × Value)} (x : DDp P w d xs h) : ObjOk P w H h d (DD P w d xs) := by
  refine ⟨x, ?_, fun h1 h2 y k => ?_⟩
  · obtain ⟨o, _, _, e, _⟩ := x
    exact ⟨o, e⟩
  · obtain ⟨o, es, ep, e, r⟩ := y
    exact ⟨o, es, ep, k _ e, r⟩
section
variable {X : Cx} {pins : List (Addr × Obj)} {σ : St} {H : Hp} {s : Shared} {P : Program} {w : World} {d b : Addr} {es : List Ent} {M : Mat}
theorem nested_ints {h : Heap} : ∀ {r : List Int} {us : List Value}, Vals (r.map V.int) us → NestedAll h (r.map NestedKey.num) us
  | [], _, h => by cases h; exact .nil
  | x :: r, _, h => by
    cases h with
    | cons r1 t =>
      obtain ⟨tk, e⟩ := r1
      subst e
      exact .cons (.int _ _) (nested_ints t)
theorem nested_row (I : Inv X pins σ H s) {x : Addr} {r : List Int} (h : H x = some (.tup (r.map V.int))) : NestedIs s.heap (.tup (r.map NestedKey.num)) (.ref x) := by
  obtain ⟨_, its, rv, o, ho, hc, n, hd⟩ := I.hok x _ h
  exact .tup ho hc hd (by simpa using nested_ints rv)
theorem nested_rows (I : Inv X pins σ H s) : ∀ {as : List Addr} {M : Mat} {us : List Value}, Paired (fun x r => H x = some (.tup (r.map V.int))) as M → Vals (as.map V.ref) us → NestedAll s.heap (M.map fun r => .tup (r.map NestedKey.num)) us
  | _, _, _, .nil, h => by cases h; exact .nil
  | _, _, _, .cons hx t, h => by
    cases h with
    | cons r1 t1 =>
      cases r1
      exact .cons (nested_row I hx) (nested_rows I t t1)
theorem nested_key (I : Inv X pins σ H s) (h : KT H b M) : (nestedKind X.prog X.w).is s.heap (keyN M) b := by
  obtain ⟨as, h1, h2⟩ := h
  obtain ⟨_, its, rv, o, ho, hc, n, hd⟩ := I.hok b _ h1
  exact ⟨.tup ho hc hd (by simpa using nested_rows I h2 rv), keyN_depth M⟩
theorem dw_of (I : Inv X pins σ H s) (h : DW X.prog X.w H d es) : s.heap.DictOfH (nestedKind X.prog X.w) d (xsOf es) := by
  obtain ⟨⟨o, ds, ep, h1, h2, h3, h4, h5⟩, _⟩ := I.hok d _ h.1
  refine ⟨o, ds, ep, h1, h2, h3, h4, fun x hx => ?_, h5⟩
  obtain ⟨e, he, rfl⟩ := List.mem_map.mp hx
  exact nested_key I (h.2.2 e he)
theorem find_key : ∀ (es : List Ent) (M : Mat), atKey (xsOf es) (keyN M) = (es.find? fun e => decide (e.1 = M)).map fun e => (e.2.1, Value.ref e.2.2)
  | [], M => rfl
  | e :: es, M => by
    have ih := find_key es M
    unfold atKey at ih ⊢
    show (((keyN e.1, e.2.1, Value.ref e.2.2) :: xsOf es).find? fun x => decide (x.1 = keyN M)).map (·.2) = _
    rw [List.find?_cons, List.find?_cons]
    by_cases c : e.1 = M
    · have c2 : keyN e.1 = keyN M := keyN_inj.mpr c
      simp [c, c2]
    · have c2 : ¬ keyN e.1 = keyN M := fun z => c (keyN_inj.mp z)
      simp only [c, c2, decide_false]
      exact ih
theorem find_mem (es : List Ent) (M : Mat) : (es.find? fun e => decide (e.1 = M)).isSome = decide (M ∈ es.map (·.1)) := by
  rw [Bool.eq_iff_iff, List.find?_isSome, decide_eq_true_eq, List.mem_map]
  simp only [decide_eq_true_eq]
theorem atKey_some (es : List Ent) (M : Mat) : (atKey (xsOf es) (keyN M)).isSome = decide (M ∈ es.map (·.1)) := by
  rw [find_key, Option.isSome_map, find_mem]
theorem room_n (hu : X.A.units + 65 < cLine) : (nestedKind X.prog X.w).room X.A.in1 := by
  show X.A.in1.units + 8 < cLine
  rw [Around.in1_units]
  omega
end
section
variable {X : Cx} {e o : Expr} {pos apos cpos : Pos} {td ty : TE}
def tDictW (P : Program) (w : World) : TE := fun _ H Q => ∀ p, H p = none → (p == sysModules) = false → Q (.ref p) (upd H p (DD P w p []))
theorem pe_dictW (P : Program) (w : World) (hP : X.prog = P := by rfl) (hw : X.w = w := by rfl) : PE X (.Dict [] [] pos) (tDictW P w) := by
  subst hP; subst hw
  exact ⟨fun pins s σ H Q I h => wpAny_Dict_empty ⟨.ref s.heap.objs.size, _, I.laid (a := s.heap.objs.size) (o := DD X.prog X.w s.heap.objs.size []) (t' := s.toks) (fun _ _ q => Heap.get?_push_of_some _ q) (Nat.le_refl _)
    (DD_new ⟨_, #[], 0, Heap.get?_push_size _ rfl, ⟨rfl, rfl, rfl⟩, rfl, rfl, List.nodup_nil⟩), rfl, h _ (I.hok.fresh (Nat.le_refl _)) (beq_eq_false_iff_ne.mpr (Ne.symm (Nat.ne_of_lt I.big)))⟩⟩
def rNinW (P : Program) (w : World) : R2 := fun x y H Q => ∃ b d es M, x = .ref b ∧ y = .ref d ∧ DW P w H d es ∧ KT H b M ∧ Q (.bl (!decide (M ∈ es.map (·.1)))) H
theorem op_ninW (P : Program) (w : World) (hu : X.A.units + 65 < cLine) (hP : X.prog = P := by rfl) (hw : X.w = w := by rfl) : OpR X (compareOp .NotIn) (rNinW P w) := by
  subst hP; subst hw
  intro pins s σ H x y v u Q I rx ry h
  obtain ⟨b, d, es, M, rfl, rfl, hd, hb, q⟩ := h
  cases rx; cases ry
  refine notIn_keyed (knd := nestedKind X.prog X.w) (room_n hu) (nested_key I hb) hd.2.1 ⟨xsOf es, dw_of I hd, rfl⟩ ?_
  rw [valueAt_pairsH, Option.isSome_map, atKey_some]
  exact ⟨.bl _, H, I.tok _, rfl, q⟩
def rSetW (P : Program) (w : World) : TSet := fun o i v H Q => ∃ d b es M a, o = .ref d ∧ i = .ref b ∧ v = .ref a ∧ DW P w H d es ∧ KT H b M ∧ M ∉ es.map (·.1) ∧ es.length < 10000 ∧ Q (upd H d (DD P w d (xsOf (es ++ [(M, b, a)]))))
theorem set_dictW (P : Program) (w : World) (hu : X.A.units + 65 < cLine) (hP : X.prog = P := by rfl) (hw : X.w = w := by rfl) : PSet X (rSetW P w) := by
  subst hP; subst hw
  intro pins s σ H o i v ov iv u Q I ro ri rv h
  obtain ⟨d, b, es, M, a, rfl, rfl, rfl, hd, hb, hM, hl, q⟩ := h
  cases ro; cases ri; cases rv
  have hn : atKey (xsOf es) (keyN M) = none := by
    have := atKey_some es M
    rw [decide_eq_false hM] at this
    simpa using this
  refine wpAny_setItem_heap (knd := nestedKind X.prog X.w) (xs := xsOf es) (room_n hu) (nested_key I hb) (dw_of I hd) (fun h' hm hs => ?_) (by unfold xsOf; rw [List.length_map]; exact Nat.le_trans (Nat.le_of_lt hl) (by decide))
  rw [storedH_new hn] at hm
  have hx : xsOf es ++ [(keyN M, b, Value.ref a)] = xsOf (es ++ [(M, b, a)]) := by unfold xsOf; rw [List.map_append]; rfl
  rw [hx] at hm
  obtain ⟨ob, ds, ep, h1, h2, h3, h4, _, h5⟩ := hm
  exact ⟨_, I.write (x := d) (e := d) (by rw [hd.1]; exact True.intro) (.inl rfl) (fun c z hc hz => (hs.2 c hc).trans hz) ⟨_, h1⟩ (DD_new ⟨ob, ds, ep, h1, h2, h3, h4, h5⟩), q⟩
def rLenW (P : Program) (w : World) : List V → Hp → VK → Prop := fun vs H Q => ∃ d es, vs = [.ref d] ∧ DW P w H d es ∧ es.length ≤ 10000 ∧ Q (.int es.length) H
theorem lenW (P : Program) (w : World) (hP : X.prog = P := by rfl) (hw : X.w = w := by rfl) : CallR X (.builtin "len") (rLenW P w) := by
  subst hP; subst hw
  intro pins s σ H vs us Q I r h
  obtain ⟨d, es, rfl, hd, hl, q⟩ := h
  rw [Vals.ref1 r]
  have hm : s.heap.DictKeyed (nestedKind X.prog X.w) d (pairsH (xsOf es)) := ⟨xsOf es, dw_of I hd, rfl⟩
  have hlen : (pairsH (xsOf es)).length = es.length := by rw [pairsH_length]; unfold xsOf; rw [List.length_map]
  refine PyProof.Rows.call_len_slot (n := (pairsH (xsOf es)).length) hm.typeIs PySem.F.slot_dict_len (fun Q' hq => len_keyed hd.2.1 hm hq) (by omega) (by rw [hlen]; omega) ?_
  rw [hlen]
  exact ⟨.int _, H, I.tok _, ⟨_, rfl⟩, q⟩
/-- ways.get(key) -/
def tGetW (P : Program) (w : World) (td ty : TE) : TE := fun σ H Q => td σ H fun x H1 => ∃ d es, x = .ref d ∧ DW P w H1 d es ∧ ty σ H1 fun y H2 => ∃ b M, y = .ref b ∧ DW P w H2 d es ∧ KT H2 b M ∧
  Q (match es.find? fun e => decide (e.1 = M) with | some e => .ref e.2.2 | none => .non) H2
theorem pe_getW (P : Program) (w : World) (hu : X.A.units + 65 < cLine) (ho : PE X o td) (he : PE X e ty) (m : M1 X o "get" apos e cpos) (hP : X.prog = P := by rfl) (hw : X.w = w := by rfl) : PE X (.Call (.Attribute o "get" apos) [e] [] cpos) (tGetW P w td ty) := by
  subst hP; subst hw
  refine ⟨fun pins s σ H Q I h => ?_⟩
  refine wpAny_Call_method m.base m.few m.line PySem.F.plainAttrs_dict PySem.F.slot_dict_get PySem.F.type_dict_get (thn (ho.run pins s σ H _ I h) fun u s1 ⟨x, H1, I1, rx, d, es, ex, hd, q1⟩ => ?_)
  subst ex
  obtain rfl : u = Value.ref d := rx
  have hD := dw_of I1 hd
  refine ⟨hD.typeIs, fun a q => ?_, ?_⟩
  · cases q
    obtain ⟨ob, _, _, h1, h2, _⟩ := hD
    exact ⟨ob, h1, h2.2.1⟩
  rw [m.trees]
  refine Calls.callWith_builtin rfl (Calls.evalArgs_plain (Calls.spliced_cons (thn (he.run pins s1 σ H1 _ I1 q1) fun iv s2 ⟨y, H2, I2, ry, b, M, ey, hd2, hb, q2⟩ => Calls.spliced_nil ?_)))
  subst ey
  obtain rfl : iv = Value.ref b := ry
  refine get_keyed (knd := nestedKind X.prog X.w) (room_n hu) (nested_key I2 hb) hd.2.1 ⟨xsOf es, dw_of I2 hd2, rfl⟩ ?_
  rw [valueAt_pairsH, find_key]
  cases hf : es.find? fun e => decide (e.1 = M) with
  | none =>
    rw [hf] at q2
    exact ⟨.non, H2, I2.tok _, rfl, q2⟩
  | some z =>
    rw [hf] at q2
    exact ⟨.ref z.2.2, H2, I2.tok _, rfl, q2⟩
end
end AT

/-! ## sorted of such a dict, of a list of matrices -/
namespace AT
open PySem PySem.Spec PyProof.Rows L2 Evl
def toT (M : Mat) : PySem.W.Tup (PySem.W.Tup Int) := ⟨M.map fun r => ⟨r⟩⟩
def encM (M : Mat) : PyData := PySem.W.Datum.toD (toT M)
theorem encM_eq (M : Mat) : encM M = .tuple (M.map fun r => .tuple (r.map .int)) := by
  show PyData.tuple ((M.map fun r => (⟨r⟩ : PySem.W.Tup Int)).map PySem.W.Datum.toD) = _
  rw [List.map_map]
  rfl
theorem listLt_row : ∀ (M N : Mat), PySem.W.listLt (M.map fun r => (⟨r⟩ : PySem.W.Tup Int)) (N.map fun r => ⟨r⟩) = ltM M N
  | [], [] => rfl
  | [], _ :: _ => rfl
  | _ :: _, [] => rfl
  | r :: M, q :: N => by
    rw [List.map_cons, List.map_cons]
    show (if (⟨r⟩ : PySem.W.Tup Int) = ⟨q⟩ then _ else _) = (if r = q then _ else _)
    by_cases c : r = q
    · rw [if_pos (by rw [c]), if_pos c]
      exact listLt_row M N
    · rw [if_neg (fun z => c (by injection z)), if_neg c]
      rfl
theorem lt_toT (M N : Mat) : PySem.W.DatumOrd.lt (toT M) (toT N) = ltM M N := listLt_row M N
def leM (M N : Mat) : Bool := !ltM N M
def sortMat (Ms : List Mat) : List Mat := Ms.mergeSort leM
theorem dataLe_M (M N : Mat) : (!PySem.W.dataLt (encM N) (encM M)) = leM M N := by
  unfold leM encM
  rw [PySem.W.DatumOrd.lt_eq, lt_toT]
section
variable {K : Frag} {H : Hp}
theorem KT.dp {b : Addr} {M : Mat} (h : KT H b M) : Dp K H (.ref b) (encM M) := by
  obtain ⟨as, h1, h2⟩ := h
  rw [encM_eq]
  refine .tup (st_of h1) ?_
  have go : ∀ {as : List Addr} {M : Mat}, Paired (fun x r => H x = some (.tup (r.map V.int))) as M → DpAll K H (as.map V.ref) (M.map fun r => .tuple (r.map .int)) := fun {as M} hP => by
    induction hP with
    | nil => exact .nil
    | cons r t ih => exact .cons (.tup (st_of r) (dpAll_ints _)) ih
  exact go h2
end
def leE (e f : Ent) : Bool := leM e.1 f.1
section
variable {X : Cx}
def rSortW (P : Program) (w : World) : List V → Hp → VK → Prop := fun vs H Q => ∃ (d : Addr) (es : List Ent), vs = [.ref d] ∧ DW P w H d es ∧ (∀ e, e ∈ es → e.1 ≠ []) ∧ es.length ≤ 1000 ∧ ∀ p, H p = none → Q (.ref p) (upd H p (.lst ((es.mergeSort leE).map fun e => V.ref e.2.1)))
theorem dpAll_ents {K : Frag} {H : Hp} : ∀ {es : List Ent}, (∀ e, e ∈ es → KT H e.2.1 e.1) → DpAll K H (es.map fun e => V.ref e.2.1) (es.map fun e => encM e.1)
  | [], _ => .nil
  | e :: es, h => .cons (h e List.mem_cons_self).dp (dpAll_ents fun x hx => h x (List.mem_cons_of_mem _ hx))
theorem vals_ents : ∀ {es : List Ent}, Vals (es.map fun e => V.ref e.2.1) (es.map fun e => Value.ref e.2.1)
  | [] => .nil
  | e :: es => .cons rfl (vals_ents (es := es))
theorem each_ents {h : Heap} : ∀ {es : List Ent} {as : List Addr}, ReadsAll h (es.map fun e => Value.ref e.2.1) (es.map fun e => encM e.1) as → PySem.W.EachIs (fun v (b : Ent) => ∃ as, Reads h v (encM b.1) as) (es.map fun e => Value.ref e.2.1) es
  | [], _, _ => .nil
  | e :: es, _, h => by
    cases h with
    | cons r t => exact .cons ⟨_, r⟩ (each_ents t)
theorem each_refl : ∀ {es : List Ent}, PySem.W.EachIs (fun v (b : Ent) => v = Value.ref b.2.1) (es.map fun e => Value.ref e.2.1) es
  | [] => .nil
  | e :: es => .cons rfl each_refl
theorem vals_each2 : ∀ {es : List Ent} {us : List Value}, PySem.W.EachIs (fun v (b : Ent) => v = Value.ref b.2.1) us es → Vals (es.map fun e => V.ref e.2.1) us
  | [], _, h => by cases h; exact .nil
  | e :: es, _, h => by
    cases h with
    | cons r t =>
      subst r
      exact .cons rfl (vals_each2 t)
theorem sortedW (P : Program) (w : World) (hc : X.calm = true) (hu : X.A.units + 64 < cLine) (hP : X.prog = P := by rfl) (hw : X.w = w := by rfl) : CallR X (.builtin "sorted") (rSortW P w) := by
  subst hP; subst hw
  intro pins s σ H vs us Q I r h
  obtain ⟨d, es, rfl, hd, hne, hl, q⟩ := h
  rw [Vals.ref1 r]
  obtain ⟨ds, ep, hr, hs, hi⟩ := (dw_of I hd).raw
  have hxl : (xsOf es).length = es.length := by unfold xsOf; rw [List.length_map]
  have h16 : ds.size ≤ sizeLine := by rw [hs, hxl]; exact Nat.le_trans hl (by decide)
  refine Calls.call_function_entry PyProof.Rows.kind_sorted PyProof.Rows.plain_sorted PyProof.Rows.entry_sorted (PyProof.Rows.args_sorted1 _) ?_
  unfold Builtin.«sorted»
  refine wpAny_bind (m := checkCount "sorted" 1 1 _) (wpAny_pure ?_)
  refine wpAny_bind (PySem.W.kdu_collect (A := X.A.in1) (KdlSrc.rawDict (es := ds) (ep := ep) hd.2.1) (I.ok.hd hc) hr h16 fun h' tk acc hk hacc => ?_)
  have hacl : acc.toList = es.map fun e => Value.ref e.2.1 := by
    apply List.ext_getElem?
    intro j
    rw [Array.getElem?_toList, List.getElem?_map]
    cases hv : acc[j]? with
    | none =>
      have hj : acc.size ≤ j := Array.getElem?_eq_none_iff.mp hv
      have : es.length ≤ j := by rw [← hxl, ← hs, ← hacc.1]; exact hj
      rw [List.getElem?_eq_none this]
      rfl
    | some v =>
      obtain ⟨hj, ev⟩ := hacc.2 j v hv
      obtain ⟨y, hy, h1, _⟩ := hi j hj
      unfold xsOf at hy
      rw [List.getElem?_map] at hy
      cases he : es[j]? with
      | none => rw [he] at hy; cases hy
      | some e =>
        rw [he] at hy
        cases hy
        rw [ev, h1]
        rfl
  rw [hacl]
  generalize hvs : (es.map fun e => Value.ref e.2.1) = its
  have hal : its.length = es.length := by rw [← hvs, List.length_map]
  have I1 : Inv X pins σ H { s with heap := h', toks := tk } := I.kept hk
  refine wpAny_bind (wpAny_newList ?_ (by rw [hal]; exact Nat.le_trans hl (by decide)))
  have hoL : (h'.push (seqObj "list" its.toArray 0)).get? h'.objs.size = some (seqObj "list" its.toArray 0) := Heap.get?_push_size _ rfl
  show wpAny _ _ _ _ _ { s with heap := h'.push (seqObj "list" its.toArray 0), toks := tk }
  obtain ⟨as, hra⟩ := Dp.readsAll I1 (es.map fun e => encM e.1) _ its (dpAll_ents (K := X.K) hd.2.2) (hvs ▸ vals_ents)
  have er : PySem.W.EachIs (fun v (b : Ent) => ∃ as, Reads h' v (encM b.1) as) its es := by
    subst hvs
    exact each_ents hra
  have er' : PySem.W.EachIs (fun v (b : Ent) => ∃ as, Reads (PySem.W.sortingHeap (h'.push (seqObj "list" its.toArray 0)) h'.objs.size its) v (encM b.1) as) its es := er.mono fun _ _ ⟨as, r⟩ => ⟨as, PyProof.Rows.Reads.keeps (fun b o q => PySem.W.sortingHeap_old (Nat.ne_of_lt (Heap.lt_size q)) (Heap.get?_push_of_some _ q)) r⟩
  have hall : PySem.W.AllAlike (es.map fun e => encM e.1) := PySem.W.AllAlike.of fun a b => PySem.W.DatumOrd.alike (toT a.1) (toT b.1)
  have hsb : PySem.W.Sortable (es.map fun e => encM e.1) := .inl fun d hd => by
    obtain ⟨e, he, rfl⟩ := List.mem_map.mp hd
    rw [encM_eq]
    have := hne e he
    cases hM : e.1 with
    | nil => exact absurd hM this
    | cons r M => exact ⟨_, _, rfl⟩
  have hdp : ∀ b : Ent, b ∈ es → X.A.in1.in1.units + (encM b.1).depth < cLine := fun b _ => by
    have : (encM b.1).depth ≤ 2 := PySem.W.Datum.depth_le (toT b.1)
    rw [Around.in1_units, Around.in1_units]
    omega
  have hre : PySem.W.EachIs (fun v (b : Ent) => v = Value.ref b.2.1) its es := hvs ▸ each_refl
  refine wpAny_bind (wpAny_holding (wpAny_call_entry PyProof.Rows.slot_list_sort ⟨_, hoL, rfl⟩ PyProof.Rows.entry_list_sort
    (PySem.W.list_sort_vals (s := { s with heap := h'.push (seqObj "list" its.toArray 0), toks := tk }) (κ := PySem.W.dataKind (PySem.W.sortingHeap (h'.push (seqObj "list" its.toArray 0)) h'.objs.size its) (es.map fun e => encM e.1)) hoL
      (PySem.W.SortsAt.data (s := { s with heap := PySem.W.sortingHeap (h'.push (seqObj "list" its.toArray 0)) h'.objs.size its, toks := tk }) (PySem.W.each_map (R := fun v d => ∃ as, Reads (PySem.W.sortingHeap (h'.push (seqObj "list" its.toArray 0)) h'.objs.size its) v d as) (fun e : Ent => encM e.1) er') hall hsb (PySem.W.bound_map hdp))
      (by rw [hal]; exact Nat.le_trans hl (by decide)) ⟨_, rfl, ?_⟩)
    (PyProof.Rows.args_list_sort _)))
  have hout := PySem.W.sortVals_data (h' := PySem.W.sortingHeap (h'.push (seqObj "list" its.toArray 0)) h'.objs.size its) false hre er' hall
  generalize PySem.W.sortVals (PySem.W.dataKind (PySem.W.sortingHeap (h'.push (seqObj "list" its.toArray 0)) h'.objs.size its) (es.map fun e => encM e.1)) false its its = out at hout
  have hms : es.mergeSort (PySem.W.dataLe false fun e => encM e.1) = es.mergeSort leE := by
    congr 1
    funext a b
    rw [PySem.W.dataLe_eq]
    exact dataLe_M a.1 b.1
  rw [hms] at hout
  obtain ⟨e', he'⟩ := PyProof.Rows.sortedHeap_at (vs := its) (out := out.toArray) hoL
  have hlen : ((es.mergeSort leE).map fun e => V.ref e.2.1).length ≤ sizeLine := by
    rw [List.length_map, List.length_mergeSort]
    exact Nat.le_trans hl (by decide)
  refine wpAny_pure ⟨_, rfl, .ref h'.objs.size, upd H h'.objs.size (.lst ((es.mergeSort leE).map fun e => V.ref e.2.1)), I1.laid (t' := tk) (fun b u e => ?_) (Nat.le_refl _)
    (show ObjOk X.prog X.w _ _ _ (.lst _) from ⟨hlen, out, e', vals_each2 hout, he'⟩), rfl, q _ (I1.hok.fresh (Nat.le_refl _))⟩
  have hb : b < h'.objs.size := Heap.lt_size e
  rw [PyProof.Rows.sortedHeap_old (Nat.ne_of_lt hb) (by rw [size_push']; exact Nat.lt_succ_of_lt hb)]
  exact Heap.get?_push_of_some _ e
end
end AT

/-! ## what turns lead to: the list gone through, in order -/
namespace AT
open PySem PySem.Spec PyProof.Rows L2 Evl
abbrev Fun2 := Nat → Nat → Int
abbrev WE := List Nat × Fun2
def nmE (n : Nat) (e : WE) : Mat := leastM n e.2
def addE (e : WE) (b : Nat) : WE := (e.1 ++ [b], turnF e.2 b)
def isNew (n : Nat) (S : List WE) (e : WE) : Bool := !decide (nmE n e ∈ S.map (nmE n))
def stepB (n : Nat) (e : WE) (S : List WE) (b : Nat) : List WE := if isNew n S (addE e b) = true ∧ S.length ≤ 20 then S ++ [addE e b] else S
def we0 : WE := ([], fun _ _ => 0)
def stepA (n at_ : Nat) (S : List WE) : List WE := (List.range n).foldl (stepB n (S.getD at_ we0)) S
def runW (n : Nat) : Nat → Nat → List WE → List WE
  | 0, _, S => S
  | f + 1, i, S => if i < S.length ∧ S.length ≤ 20 then runW n f (i + 1) (stepA n i S) else S
def waysL (n : Nat) (f : Fun2) : List WE := runW n 21 0 [([], f)]
theorem stepB_stuck {n : Nat} {e : WE} {S : List WE} {b : Nat} (h : 20 < S.length) : stepB n e S b = S := if_neg fun z => by omega
theorem stepB_add {n : Nat} {e : WE} {S : List WE} {b : Nat} (h1 : isNew n S (addE e b) = true) (h2 : S.length ≤ 20) : stepB n e S b = S ++ [addE e b] := if_pos ⟨h1, h2⟩
theorem fold_stuck {n : Nat} {e : WE} {S : List WE} (h : 20 < S.length) : ∀ l : List Nat, l.foldl (stepB n e) S = S
  | [] => rfl
  | b :: l => by rw [List.foldl_cons, stepB_stuck h, fold_stuck h l]
theorem runW_stuck {n : Nat} {S : List WE} (h : 20 < S.length) : ∀ f i, runW n f i S = S
  | 0, _ => rfl
  | f + 1, i => if_neg fun z => by omega
theorem stepB_pre {n : Nat} {e : WE} {S : List WE} {b : Nat} : S <+: stepB n e S b := by
  unfold stepB
  split
  · exact List.prefix_append _ _
  · exact List.prefix_refl _
theorem fold_pre {n : Nat} {e : WE} : ∀ (l : List Nat) (S : List WE), S <+: l.foldl (stepB n e) S
  | [], S => List.prefix_refl _
  | b :: l, S => stepB_pre.trans (fold_pre l _)
theorem pre_getD {S S' : List WE} (h : S <+: S') {i : Nat} (hi : i < S.length) : S'.getD i we0 = S.getD i we0 := by
  obtain ⟨t, rfl⟩ := h
  rw [List.getD_eq_getElem?_getD, List.getD_eq_getElem?_getD, List.getElem?_append_left hi]
theorem stepB_len {n : Nat} {e : WE} {S : List WE} {b : Nat} (h : S.length ≤ 21) : (stepB n e S b).length ≤ 21 := by
  unfold stepB
  split
  · rename_i c
    rw [List.length_append]
    have := c.2
    simp only [List.length_cons, List.length_nil]
    omega
  · exact h
theorem fold_len {n : Nat} {e : WE} : ∀ (l : List Nat) {S : List WE}, S.length ≤ 21 → (l.foldl (stepB n e) S).length ≤ 21
  | [], _, h => h
  | b :: l, _, h => fold_len l (stepB_len h)
theorem range_fold (n : Nat) (e : WE) (S : List WE) (j : Nat) : (List.range (j + 1)).foldl (stepB n e) S = stepB n e ((List.range j).foldl (stepB n e) S) j := by
  rw [List.range_succ, List.foldl_append]; rfl
theorem range_split {n j : Nat} (h : j ≤ n) (e : WE) (S : List WE) (m : Nat) : (List.range n).foldl (stepB m e) S = (List.range' j (n - j)).foldl (stepB m e) ((List.range j).foldl (stepB m e) S) := by
  rw [← List.foldl_append]
  congr 1
  rw [List.range_eq_range', List.range_eq_range']
  have := List.range'_append (s := 0) (m := j) (n := n - j) (step := 1)
  rw [show 0 + 1 * j = j by omega, show j + (n - j) = n by omega] at this
  exact this.symm
/-- numbers of the i-th form: less than 8 * 2^i bits -/
def BitsE (B n : Nat) (f : Fun2) : Prop := ∀ i j, i < n → j < n → (f i j).natAbs < 2 ^ B
def bI (i : Nat) : Nat := 8 * 2 ^ i - 1
theorem bI_succ (i : Nat) : bI (i + 1) = 2 * bI i + 1 := by
  unfold bI
  have : 1 ≤ 2 ^ i := Nat.one_le_two_pow
  rw [Nat.pow_succ]
  omega
theorem bI_mono {i j : Nat} (h : i ≤ j) : bI i ≤ bI j := by
  unfold bI
  have := Nat.pow_le_pow_right (n := 2) (by decide) h
  omega
theorem bI_20 : bI 20 = 8388607 := by decide
theorem bI_pos (i : Nat) : 0 < bI i := by
  unfold bI
  have : 1 ≤ 2 ^ i := Nat.one_le_two_pow
  omega
theorem thr_abs (a b : Int) : (thr a b).natAbs ≤ (a * b).natAbs := by
  unfold thr
  split
  · exact Nat.le_refl _
  · split <;> omega
theorem bits_turn {B n k : Nat} {f : Fun2} (h : BitsE B n f) (hk : k < n) (hB : 0 < B) : BitsE (2 * B + 1) n (turnF f k) := fun i j hi hj => by
  have h1 := h i j hi hj
  have h2 := h i k hi hk
  have h3 := h k j hk hj
  have e1 : 2 ^ B ≤ 2 ^ (B + B) := Nat.pow_le_pow_right (by decide) (by omega)
  have e2 : 2 ^ (2 * B + 1) = 2 ^ (B + B) + 2 ^ (B + B) := by rw [show 2 * B + 1 = (B + B) + 1 by omega, Nat.pow_succ]; omega
  have h4 : (f i k * f k j).natAbs < 2 ^ (B + B) := wide_lt h2 h3
  have h5 := thr_abs (f i k) (f k j)
  rw [e2]
  unfold turnF
  split
  · omega
  · omega
def BitsS (n : Nat) (S : List WE) : Prop := ∀ (i : Nat) e, S[i]? = some e → BitsE (bI i) n e.2 ∧ e.1.length ≤ i
theorem bits_step {n i b : Nat} {S : List WE} {e : WE} (h : BitsS n S) (he : S[i]? = some e) (hb : b < n) : BitsS n (stepB n e S b) := by
  unfold stepB
  split
  · intro j x hx
    by_cases hj : j < S.length
    · rw [List.getElem?_append_left hj] at hx
      exact h j x hx
    · rw [List.getElem?_append_right (by omega)] at hx
      have hil := (List.getElem?_eq_some_iff.mp he).1
      have hj2 : j - S.length = 0 := by
        have := (List.getElem?_eq_some_iff.mp hx).1
        simp at this
        omega
      rw [hj2] at hx
      cases hx
      have h1 := bits_turn (h i e he).1 hb (bI_pos i)
      rw [← bI_succ] at h1
      have h2 : bI (i + 1) ≤ bI j := bI_mono (by omega)
      refine ⟨fun x y hx hy => Nat.lt_of_lt_of_le (h1 x y hx hy) (Nat.pow_le_pow_right (by decide) h2), ?_⟩
      have h3 := (h i e he).2
      show (e.1 ++ [b]).length ≤ j
      rw [List.length_append]
      show _ + 1 ≤ j
      omega
  · exact h
theorem bits_form {n : Nat} {f : Fun2} (h : FormOf n f) : BitsS n [([], f)] := fun i e he => by
  have hi : i = 0 := by
    have := (List.getElem?_eq_some_iff.mp he).1
    simp at this
    omega
  subst hi
  cases he
  refine ⟨fun x y hx hy => ?_, Nat.le_refl 0⟩
  have := h.2.2 x y hx hy
  show (f x y).natAbs < 2 ^ (bI 0)
  have : bI 0 = 7 := by decide
  rw [this]
  have : (2 : Nat) ^ 7 = 128 := by decide
  omega
theorem BitsE.to {n : Nat} {f : Fun2} {i : Nat} (h : BitsE (bI i) n f) (hi : i ≤ 20) : Bits (bI i) n f := ⟨bI_pos i, by
  have := bI_mono hi
  rw [bI_20] at this
  omega, h⟩
end AT

/-! ## key_of; what holds while the ways are gone through -/
namespace AT
open PySem PySem.Spec PyProof.Rows L2 Evl
def OKT (H0 H : Hp) (b : Addr) (M : Mat) : Prop := H0 b = none ∧ ∃ as : List Addr, H b = some (.tup (as.map V.ref)) ∧ Paired (fun x r => H0 x = none ∧ H x = some (.tup (r.map V.int))) as M
def RKT (M : Mat) : R3 := fun H1 H2 v => ∃ b, v = .ref b ∧ OKT H1 H2 b M
theorem OKT.kt {H0 H : Hp} {b : Addr} {M : Mat} (h : OKT H0 H b M) : KT H b M := by
  obtain ⟨_, as, h1, h2⟩ := h
  exact ⟨as, h1, paired_mono h2 fun _ _ z => z.2⟩
theorem OKT.mono {H0 H H1 : Hp} {b : Addr} {M : Mat} (e : Ex H H1) (h : OKT H0 H b M) : OKT H0 H1 b M := by
  obtain ⟨h0, as, h1, h2⟩ := h
  exact ⟨h0, as, e _ _ h1, paired_mono h2 fun _ _ z => ⟨z.1, e _ _ z.2⟩⟩
theorem OKT.back {H0 H H1 : Hp} {b : Addr} {M : Mat} (e : Ex H0 H1) (h : OKT H1 H b M) : OKT H0 H b M := by
  obtain ⟨h0, as, h1, h2⟩ := h
  exact ⟨fresh_back e h0, as, h1, paired_mono h2 fun _ _ z => ⟨fresh_back e z.1, z.2⟩⟩
theorem mon_RKT {M : Mat} : Mon (RKT M) := ⟨fun e ⟨b, h, q⟩ => ⟨b, h, q.mono e⟩, fun e ⟨b, h, q⟩ => ⟨b, h, q.back e⟩⟩
section
variable {K : Frag} {σ : St} {H H0 H1 : Hp} {te ta tb tl : TE} {a : Addr}
theorem er_tupL {xs : List V} (h : Ev te σ H (.ref a)) (hx : SqL K H a xs) : Er (tCB (rTupS K) (tCons te tNil)) σ H (RT xs) := fun H1 e Q q =>
  h H1 e _ fun H2 e2 => ⟨a, xs, rfl, .inl ⟨ex_l (e.trans e2) hx, fun l hl => q _ _ (e2.trans (Ex.new hl)) ⟨l, rfl, fresh_back e2 hl, upd_same⟩⟩⟩
theorem er_tupN {idx : List Nat} {M : Nat → List Int} {N : Mat} (h : Er te σ H (RLs idx fun i => RT ((M i).map V.int))) (hN : N = idx.map M) : Er (tCB (rTupS K) (tCons te tNil)) σ H (RKT N) := fun H1 e Q q =>
  h H1 e _ fun v H2 e2 ⟨p, vs, hv, hp, hp2, hP⟩ => by
    subst hv
    refine ⟨p, vs, rfl, .inl ⟨sq_of hp2, fun l hl => ?_⟩⟩
    have en : Ex H2 (upd H2 l (.tup vs)) := Ex.new hl
    have key : ∀ {vs : List V} {idx : List Nat}, Paired (fun v j => RT ((M j).map V.int) H1 H2 v) vs idx → ∃ as : List Addr, vs = as.map V.ref ∧ Paired (fun x j => H1 x = none ∧ H2 x = some (.tup ((M j).map V.int))) as idx := fun {vs idx} hP => by
      induction hP with
      | nil => exact ⟨[], rfl, .nil⟩
      | cons r t ih =>
        obtain ⟨x, hx, h1, h2⟩ := r
        obtain ⟨as, h3, h4⟩ := ih
        exact ⟨x :: as, by rw [hx, h3]; rfl, .cons ⟨h1, h2⟩ h4⟩
    obtain ⟨as, rfl, has⟩ := key hP
    refine q _ _ (e2.trans en) ⟨l, rfl, fresh_back e2 hl, as, upd_same, ?_⟩
    have h5 : Paired (fun x r => H1 x = none ∧ upd H2 l (.tup (as.map V.ref)) x = some (.tup (r.map V.int))) (as.map id) (idx.map M) := paired_map (fun x j ⟨z1, z2⟩ => ⟨z1, en _ _ z2⟩) has
    rw [List.map_id] at h5
    rw [hN]
    exact h5
/-- xs + [j] -/
theorem er_catI {xs : List Int} {j : Int} (ha : Ev ta σ H (.ref a)) (hl : H a = some (.lst (xs.map V.int))) (hb : Ev tb σ H (.int j)) (hz : xs.length ≤ 10000) : Er (tOp rCat ta (tLst (tCons tb tNil))) σ H (RL (xs ++ [j])) := fun H1 e Q q =>
  ha H1 e _ fun H2 e2 => hb H2 (e.trans e2) _ fun H3 e3 => ⟨by show 1 ≤ sizeLine; decide, fun b hb => by
    have en : Ex H3 (upd H3 b (.lst [.int j])) := Ex.new hb
    refine ⟨a, b, _, _, rfl, rfl, (((e.trans e2).trans e3).trans en) _ _ hl, upd_same, ?_, fun p hp => ?_⟩
    · rw [List.length_map]
      exact Nat.le_trans (m := 10001) (by show _ + 1 ≤ 10001; omega) (by decide)
    · have ep := Ex.new (o := .lst (xs.map V.int ++ [.int j])) hp
      exact q _ _ (((e2.trans e3).trans en).trans ep) ⟨p, rfl, fresh_back ((e2.trans e3).trans en) hp, by rw [upd_same, List.map_append]; rfl⟩⟩
end
def sp_key_of (K : Frag) : Sp := fun vs H Q _ => ∃ (a : Addr) (n : Nat) (f : Nat → Nat → Int), vs = [.ref a] ∧ LLI K H a (Fm n f) ∧ n ≤ 5 ∧ ∀ H' b, Ex H H' → OKT H H' b (leastM n f) → Q (.ref b) H'
theorem least_len (n : Nat) (f : Nat → Nat → Int) : (leastM n f).length = n := by
  obtain ⟨ps, _, h⟩ := least_mem n f
  rw [h, fm_len]
section
variable {P : Program} {w : World} {K : Frag} {mg : Str → Option Value} {base : Heap} {k : Nat}
theorem ok_key_of (T : Txt K mg) (G_least_by : FnOk P w K mg base CX0 k T.f_least_by T.d_least_by ["form"] (sp_least_by K)) : FnOk P w K mg base CX0 (k + 1) T.f_key_of T.d_key_of ["form"] (sp_key_of K) := by
  refine T.F_key_of.ok sc_key_of (fun vs H Q E h => ?_) (fun cdv A outer s H vs Q E hr h => ?_)
  · obtain ⟨a, n, f, rfl, _⟩ := h
    rfl
  · obtain ⟨a, n, f, rfl, hM, hn, q⟩ := h
    refine ⟨_, (pss_one (ps_ret (pe_callTy (tupK K) rfl T.b_tuple (by decide +kernel) (pa_cons (pe_lc (own := [("row", 1)]) rfl sc_key_of.nd (pi_listK K (pe_call G_least_by hr rfl T.m_least_by T.F_least_by.kp T.b_least_by .nil pass0 (pa_cons (pv 0) pa_nil))) (blkOk_by (own := [("row", 1)]) (N := N_key_of) (sc := defScope s_key_of) (by decide +kernel)) (fun _ _ _ _ _ => (pg_name (i := 1) sc_key_of.nd rfl (.inl rfl))) (fun _ _ _ _ _ => pts_nil) (fun _ _ _ _ _ => (pe_callTy (tupK K) rfl T.b_tuple (by decide +kernel) (pa_cons (pv 1) pa_nil)))) pa_nil)))), ?_⟩
    have hml := least_len n f
    have hlc := er_lcN (K := K) (σ := [some (V.ref a), none]) (H := H) (t := tYes) (tl := tCall (sp_least_by K) [] E0 (tCons (tVar 0) tNil)) (te := tCB (rTupS K) (tCons (tVar 1) tNil)) (j := 1) (vs := [1]) (n := n) (R0 := RM (leastM n f)) (fun _ => true) (fun i => RT (((leastM n f).getD i []).map V.int)) (fun _ => mon'_RT)
      (er_call mon_RM (ea_cons (ev_var rfl) ea_nil) fun G1 g1 Q' q' E' => ⟨a, n, f, rfl, hM.mono g1, hn, fun H' p e hO => q' _ H' e ⟨p, rfl, hO⟩⟩) (by omega) (fun _ => rfl) (fun G1 G2 v g1 g2 ⟨p, hv, hO⟩ => by
        obtain ⟨as, h1, h2⟩ := hO.lli (K := K)
        refine ⟨p, as.map V.ref, hv, h1, by rw [List.length_map, h2.length, hml], fun i x G3 hx g3 => ⟨fun G4 g4 Q' q' => q' G4 (Ex.refl _), fun _ => ?_⟩⟩
        rw [List.getElem?_map] at hx
        cases hy : as[i]? with
        | none => rw [hy] at hx; cases hx
        | some y =>
          rw [hy] at hx
          cases hx
          obtain ⟨r, hr1, hr2⟩ := paired_getL h2 hy
          have e : (leastM n f).getD i [] = r := by rw [List.getD_eq_getElem?_getD, hr1]; rfl
          rw [e]
          exact er_tupL (ev_var rfl) (hr2.mono g3))
    refine sr_ret (er_tupN (K := K) (N := leastM n f) (M := fun i => (leastM n f).getD i []) hlc ?_) fun v H1 e1 ⟨b, hv, hO⟩ => ?_
    · rw [filt_all]
      have := list_eq_range [] (leastM n f)
      rw [hml] at this
      exact this
    · subst hv
      exact q H1 b e1 hO
end
/-- a heap without two of its objects -/
def del (H : Hp) (a b : Addr) : Hp := fun x => if x = a ∨ x = b then none else H x
theorem del_ne {H : Hp} {a b x : Addr} (h1 : x ≠ a) (h2 : x ≠ b) : del H a b x = H x := if_neg fun z => z.elim h1 h2
theorem del_ex {H : Hp} {a b : Addr} : Ex (del H a b) H := fun x o h => by
  unfold del at h
  split at h
  · cases h
  · exact h
theorem ex_del {G H : Hp} {a b : Addr} (e : Ex G H) (ha : G a = none) (hb : G b = none) : Ex G (del H a b) := fun x o h => by
  rw [del_ne (fun z => by subst z; rw [ha] at h; cases h) (fun z => by subst z; rw [hb] at h; cases h)]
  exact e _ _ h
structure WIx (P : Program) (w : World) (K : Frag) (n : Nat) (H : Hp) (d qa : Addr) (S : List WE) (H' G : Hp) (es : List Ent) (qs : List Addr) : Prop where
  hg : Ex H G
  gd : G d = none
  gq : G qa = none
  gh : Ex G H'
  hq : H' qa = some (.lst (qs.map V.ref))
  hd : H' d = some (DD P w d (xsOf es))
  sys : (d == sysModules) = false
  kt : ∀ e, e ∈ es → KT G e.2.1 e.1
  hes : Paired (fun e s => e.1 = nmE n s ∧ OLI H G e.2.2 (nI s.1)) es S
  hqs : Paired (fun q s => ∃ wy fm, G q = some (.tup [.ref wy, .ref fm]) ∧ G wy = some (.lst ((nI s.1).map V.int)) ∧ LLI K G fm (Fm n s.2)) qs S
section
variable {P : Program} {w : World} {K : Frag} {n : Nat} {H H' H4 H7 G : Hp} {d qa b v p wy q : Addr} {S : List WE} {es : List Ent} {qs : List Addr} {s : WE}
theorem WIx.mono {H1 : Hp} (e : Ex H' H1) (h : WIx P w K n H d qa S H' G es qs) : WIx P w K n H d qa S H1 G es qs := ⟨h.hg, h.gd, h.gq, h.gh.trans e, e _ _ h.hq, e _ _ h.hd, h.sys, h.kt, h.hes, h.hqs⟩
theorem WIx.dw (h : WIx P w K n H d qa S H' G es qs) : DW P w H' d es := ⟨h.hd, h.sys, fun e he => (h.kt e he).mono h.gh⟩
theorem WIx.names (h : WIx P w K n H d qa S H' G es qs) : es.map (·.1) = S.map (nmE n) := by
  have := h.hes
  clear h
  induction this with
  | nil => rfl
  | cons r t ih => rw [List.map_cons, List.map_cons, r.1, ih]
theorem WIx.len (h : WIx P w K n H d qa S H' G es qs) : es.length = S.length ∧ qs.length = S.length := ⟨h.hes.length, h.hqs.length⟩
theorem WIx.step (h : WIx P w K n H d qa S H' G es qs) (e4 : Ex H' H4) (hk : OKT H' H4 b (nmE n s)) (hv : H' v = none) (hv4 : H4 v = some (.lst ((nI s.1).map V.int))) (hp : OLLI H' H4 p (Fm n s.2))
    (e7 : Ex (upd H4 d (DD P w d (xsOf (es ++ [(nmE n s, b, v)])))) H7) (hw : H' wy = none) (hw7 : H7 wy = some (.lst ((nI s.1).map V.int))) (hq : H' q = none) (hq7 : H7 q = some (.tup [.ref wy, .ref p])) :
    WIx P w K n H d qa (S ++ [s]) (upd H7 qa (.lst ((qs ++ [q]).map V.ref))) (del H7 d qa) (es ++ [(nmE n s, b, v)]) (qs ++ [q]) := by
  have hdq : d ≠ qa := fun z => by
    have h1 := h.hd
    rw [z, h.hq] at h1
    cases h1
  have nd : ∀ {y : Addr}, H' y = none → y ≠ d ∧ y ≠ qa := fun {y} hy => ⟨fun z => (by subst z; rw [h.hd] at hy; cases hy), fun z => (by subst z; rw [h.hq] at hy; cases hy)⟩
  have c4 : ∀ {y : Addr} {o : HO}, H' y = none → H4 y = some o → del H7 d qa y = some o := fun {y o} hy h4 => by
    obtain ⟨n1, n2⟩ := nd hy
    rw [del_ne n1 n2]
    exact e7 _ _ (by rw [upd_ne n1]; exact h4)
  have c7 : ∀ {y : Addr} {o : HO}, H' y = none → H7 y = some o → del H7 d qa y = some o := fun {y o} hy h4 => by
    obtain ⟨n1, n2⟩ := nd hy
    rw [del_ne n1 n2]
    exact h4
  have eG : Ex G (del H7 d qa) := fun y o hy => by
    have n1 : y ≠ d := fun z => by subst z; rw [h.gd] at hy; cases hy
    have n2 : y ≠ qa := fun z => by subst z; rw [h.gq] at hy; cases hy
    rw [del_ne n1 n2]
    exact e7 _ _ (by rw [upd_ne n1]; exact e4 _ _ (h.gh _ _ hy))
  have eHG := h.hg.trans eG
  refine ⟨eHG, if_pos (.inl rfl), if_pos (.inr rfl), fun y o hy => ?_, upd_same, ?_, h.sys, fun e he => ?_, ?_, ?_⟩
  · by_cases c : y = qa
    · subst c
      rw [show del H7 d y y = none from if_pos (.inr rfl)] at hy
      cases hy
    · rw [upd_ne c]
      exact del_ex _ _ hy
  · rw [upd_ne hdq]
    exact e7 _ _ upd_same
  · rcases List.mem_append.mp he with he | he
    · exact (h.kt e he).mono eG
    · rw [List.mem_singleton] at he
      subst he
      obtain ⟨h0, as, h1, h2⟩ := hk
      exact ⟨as, c4 h0 h1, paired_mono h2 fun _ _ z => c4 z.1 z.2⟩
  · refine paired_append (paired_mono h.hes fun e s z => ⟨z.1, z.2.mono eG⟩) (.cons ⟨rfl, ?_, c4 hv hv4⟩ .nil)
    exact fresh_back (h.hg.trans h.gh) hv
  · refine paired_append (paired_mono h.hqs fun q s ⟨wy, fm, z1, z2, z3⟩ => ⟨wy, fm, eG _ _ z1, eG _ _ z2, z3.mono eG⟩) (.cons ⟨wy, p, c7 hq hq7, c7 hw hw7, ?_⟩ .nil)
    obtain ⟨as, h0, h1, _, h2⟩ := hp
    exact ⟨as, sq_of (c4 h0 h1), paired_mono h2 fun _ _ z => sq_of (c4 z.1 z.2)⟩
end
end AT

/-! ## ways_from -/
namespace AT
open PySem PySem.Spec PyProof.Rows L2 Evl
section
variable {P : Program} {w : World} {K : Frag} {σ : St} {H H' H1 : Hp} {te ta tb tk to : TE} {a d b p q : Addr} {D : Ends} {tz : TS} {M : Mat} {es : List Ent}
theorem q_dictW {i : Nat} (k : ∀ d, H d = none → (d == sysModules) = false → tz D (σ.set i (some (.ref d))) (upd H d (DD P w d []))) : tSeq (tAsg (tDictW P w) (gName i)) tz D σ H := fun d hd hs => k d hd hs
theorem q_setW {xs : List Int} {Rk : R3} (mR : Mon Rk) (hK : ∀ G1 G2 v, Rk G1 G2 v → ∃ b, v = .ref b ∧ KT G2 b M) (hv : Er te σ H (RL xs)) (ho : Ev to σ H (.ref d)) (hk : Er tk σ H Rk) (hd : DW P w H d es) (hM : M ∉ es.map (·.1)) (hl : es.length < 10000)
    (k : ∀ v b H4, Ex H H4 → H v = none → H4 v = some (.lst (xs.map V.int)) → Rk H H4 (.ref b) → tz D σ (upd H4 d (DD P w d (xsOf (es ++ [(M, b, v)]))))) : tSeq (tAsg te (gSub to tk (rSetW P w))) tz D σ H :=
  hv H (Ex.refl _) _ fun v H2 e2 ⟨y, hy, hO⟩ => ho H2 e2 _ fun H3 e3 => hk H3 (e2.trans e3) _ fun v3 H4 e4 r => by
    subst hy
    obtain ⟨b, rfl, hb⟩ := hK _ _ _ r
    have e24 := (e2.trans e3).trans e4
    exact ⟨d, b, es, M, y, rfl, rfl, rfl, hd.mono e24, hb, hM, hl, k y b H4 e24 hO.1 ((e3.trans e4) _ _ hO.2) (mR.dn (e2.trans e3) r)⟩
theorem s_appE {l : Addr} {vs : List V} {R : R3} (mR : Mon R) (hl : H l = some (.lst vs)) (ha : Ev ta σ H (.ref l)) (h : Er te σ H R) (hz : vs.length < 100000) (k : ∀ v H1, Ex H H1 → R H H1 v → D.nx σ (upd H1 l (.lst (vs ++ [v])))) :
    tDrop (tBM K "list" rAppend ta (tCons te tNil)) D σ H := ha H (Ex.refl H) _ fun H1 e => ⟨.inl ⟨rfl, vs, sq_of (e _ _ hl)⟩, h H1 e _ fun v H2 e2 r => ⟨l, vs, v, rfl, rfl, (e.trans e2) _ _ hl, sz_lt hz, k v H2 (e.trans e2) (mR.dn e r)⟩⟩
/-- (a new list of ints, p) -/
def RQ (xs : List Int) (p : Addr) : R3 := fun H1 H2 v => ∃ q wy, v = .ref q ∧ H1 q = none ∧ H2 q = some (.tup [.ref wy, .ref p]) ∧ H1 wy = none ∧ H2 wy = some (.lst (xs.map V.int))
theorem mon_RQ {xs : List Int} {p : Addr} : Mon (RQ xs p) := ⟨fun e ⟨q, wy, h, h1, h2, h3, h4⟩ => ⟨q, wy, h, h1, e _ _ h2, h3, e _ _ h4⟩, fun e ⟨q, wy, h, h1, h2, h3, h4⟩ => ⟨q, wy, h, fresh_back e h1, h2, fresh_back e h3, h4⟩⟩
theorem er_tupQ {xs : List Int} (h1 : Er ta σ H (RL xs)) (h2 : Ev tb σ H (.ref p)) : Er (tTup (tCons ta (tCons tb tNil))) σ H (RQ xs p) := fun H1 e Q q =>
  h1 H1 e _ fun v H2 e2 ⟨y, hy, hO⟩ => h2 H2 (e.trans e2) _ fun H3 e3 => by
    subst hy
    refine ⟨by show 2 ≤ sizeLine; decide, fun t ht => ?_⟩
    have et := Ex.new (o := .tup [.ref y, .ref p]) ht
    exact q _ _ ((e2.trans e3).trans et) ⟨t, y, rfl, fresh_back (e2.trans e3) ht, upd_same, hO.1, (e3.trans et) _ _ hO.2⟩
/-- [q] -/
theorem er_lstQ {R : R3} (mR : Mon R) (h1 : Er ta σ H R) : Er (tLst (tCons ta tNil)) σ H (fun H1 H2 v => ∃ l x, v = .ref l ∧ H1 l = none ∧ H2 l = some (.lst [x]) ∧ R H1 H2 x) := fun H1 e Q q =>
  h1 H1 e (fun x H2 => [x].length ≤ sizeLine ∧ ∀ p, H2 p = none → Q (.ref p) (upd H2 p (.lst [x]))) fun v H2 e2 r => ⟨by show 1 ≤ sizeLine; decide, fun l hl => by
    have el := Ex.new (o := .lst [v]) hl
    exact q _ _ (e2.trans el) ⟨l, v, rfl, fresh_back e2 hl, upd_same, mR.up el r⟩⟩
theorem rv_ninW (hb : KT H b M) (hd : DW P w H d es) : RV (rNinW P w) (.ref b) (.ref d) H (.bl (!decide (M ∈ es.map (·.1)))) := fun G g Q k => ⟨b, d, es, M, rfl, rfl, hd.mono g, hb.mono g, k G (Ex.refl _)⟩
theorem ev_lenW (ha : Ev ta σ H (.ref d)) (hd : DW P w H d es) (hl : es.length ≤ 10000) : Ev (tCB (rLenW P w) (tCons ta tNil)) σ H (.int (es.length : Int)) := fun H1 e Q q =>
  ha H1 e _ fun H2 e2 => ⟨d, es, rfl, hd.mono (e.trans e2), hl, q H2 e2⟩
theorem WIx.init {n : Nat} {f : Fun2} {v qa q wy : Addr} {H4 H5 : Hp} (hd0 : H d = none) (hs : (d == sysModules) = false) (e4 : Ex (upd H d (DD P w d [])) H4) (hk : OKT H H4 b (leastM n f)) (hbd : ∀ y, H y = none → H4 y ≠ none → y ≠ d → True) (hkd : OKT (upd H d (DD P w d [])) H4 b (leastM n f)) (hv : upd H d (DD P w d []) v = none) (hv4 : H4 v = some (.lst []))
    (e5 : Ex (upd H4 d (DD P w d (xsOf [(leastM n f, b, v)]))) H5) (hqa0 : upd H4 d (DD P w d (xsOf [(leastM n f, b, v)])) qa = none) (hqa : H5 qa = some (.lst [.ref q])) (hq0 : upd H4 d (DD P w d (xsOf [(leastM n f, b, v)])) q = none) (hq : H5 q = some (.tup [.ref wy, .ref a])) (hw0 : upd H4 d (DD P w d (xsOf [(leastM n f, b, v)])) wy = none) (hw : H5 wy = some (.lst [])) (hM : LLI K H a (Fm n f)) :
    WIx P w K n H d qa [([], f)] H5 (del H5 d qa) [(leastM n f, b, v)] [q] := by
  have fr : ∀ {y : Addr}, upd H4 d (DD P w d (xsOf [(leastM n f, b, v)])) y = none → y ≠ d ∧ H4 y = none := fun {y} h => by
    by_cases c : y = d
    · subst c
      rw [upd_same] at h
      cases h
    · rw [upd_ne c] at h
      exact ⟨c, h⟩
  have fr0 : ∀ {y : Addr}, upd H d (DD P w d []) y = none → y ≠ d ∧ H y = none := fun {y} h => by
    by_cases c : y = d
    · subst c
      rw [upd_same] at h
      cases h
    · rw [upd_ne c] at h
      exact ⟨c, h⟩
  have e04 : Ex H H4 := (Ex.new hd0).trans e4
  have hqd := (fr hqa0).1
  have nqa : ∀ {y : Addr} {o : HO}, H4 y = some o → y ≠ qa := fun {y o} h z => by
    subst z
    rw [(fr hqa0).2] at h
    cases h
  have c4 : ∀ {y : Addr} {o : HO}, y ≠ d → H4 y = some o → del H5 d qa y = some o := fun {y o} hy h => by
    rw [del_ne hy (nqa h)]
    exact e5 _ _ (by rw [upd_ne hy]; exact h)
  have eG : Ex H (del H5 d qa) := fun y o h => c4 (fun z => by subst z; rw [hd0] at h; cases h) (e04 _ _ h)
  refine ⟨eG, if_pos (.inl rfl), if_pos (.inr rfl), del_ex, hqa, e5 _ _ upd_same, hs, fun e he => ?_, .cons ⟨rfl, ?_⟩ .nil, .cons ⟨wy, a, ?_, ?_, hM.mono eG⟩ .nil⟩
  · rw [List.mem_singleton] at he
    subst he
    obtain ⟨h0, as, h1, h2⟩ := hkd
    exact ⟨as, c4 (fr0 h0).1 h1, paired_mono h2 fun _ _ z => c4 (fr0 z.1).1 z.2⟩
  · exact ⟨(fr0 hv).2, c4 (fr0 hv).1 hv4⟩
  · rw [del_ne (fr hq0).1 (fun z => by subst z; rw [hqa] at hq; cases hq)]
    exact hq
  · rw [del_ne (fr hw0).1 (fun z => by subst z; rw [hqa] at hw; cases hw)]
    exact hw
end
def sp_ways_from (P : Program) (w : World) (K : Frag) (CT : Addr) : Sp := fun vs H Q E => ∃ (a : Addr) (n : Nat) (f : Fun2), vs = [.ref a] ∧ LLI K H a (Fm n f) ∧ FormOf n f ∧ n ≤ 4 ∧ (20 < (waysL n f).length → ∀ H', Ex H H' → E (.ref CT) none H') ∧
  ((waysL n f).length ≤ 20 → ∀ H' d es, Ex H H' → DW P w H' d es → Paired (fun e s => e.1 = nmE n s ∧ OLI H H' e.2.2 (nI s.1)) es (waysL n f) → Q (.ref d) H')
section
variable {P : Program} {w : World} {K : Frag} {mg : Str → Option Value} {base : Heap} {k : Nat}
theorem ok_ways_from (T : Txt K mg) (G_must_be_few : FnOk P w K mg base (L2.CX P w) k T.f_must_be_few T.d_must_be_few ["form"] (sp_must_be_few K T.c_NoForm T.c_TooMany)) (G_key_of : FnOk P w K mg base CX0 k T.f_key_of T.d_key_of ["form"] (sp_key_of K)) (G_turned_by : FnOk P w K mg base CX0 k T.f_turned_by T.d_turned_by ["form", "box"] (sp_turned_by K)) :
    FnOk P w K mg base (L2.CX P w) (k + 1) T.f_ways_from T.d_ways_from ["form"] (sp_ways_from P w K T.c_TooMany) := by
  refine T.F_ways_from.okX sc_ways_from (fun vs H Q E h => ?_) (fun cdv A outer s H vs Q E hr h => ?_)
  · obtain ⟨a, n, f, rfl, _⟩ := h
    rfl
  obtain ⟨a, n, f, rfl, hM, hf, h4, q1, q2⟩ := h
  refine ⟨_, (pss_cons (ps_expr (pe_call G_must_be_few hr rfl T.m_must_be_few T.F_must_be_few.kp T.b_must_be_few .nil (passes_call (takes_of rfl rfl rfl rfl) (fun _ _ _ _ h => h)) (pa_cons (pv 0) pa_nil)))
      (pss_cons (ps_set (i := 1) sc_ways_from.nd rfl (.inl rfl) (pe_dictW P w))
      (pss_cons (ps_asg (pe_lst pa_nil) (pg_sub (pv 1) (pe_call G_key_of hr rfl T.m_key_of T.F_key_of.kp T.b_key_of .nil pass0 (pa_cons (pv 0) pa_nil)) (set_dictW P w hr.units65)))
      (pss_cons (ps_set (i := 2) sc_ways_from.nd rfl (.inl rfl) (pe_lst (pa_cons (pe_tup (pa_cons (pe_lst pa_nil) (pa_cons (pv 0) pa_nil))) pa_nil)))
      (pss_cons (ps_set (i := 3) sc_ways_from.nd rfl (.inl rfl) pe_int)
      (pss_cons (ps_while (passes_of rfl) (pt_cmpR op_lt (pv 3) (pe_callB (lenK K) rfl T.b_len PySem.boot_len (pa_cons (pv 2) pa_nil)) (nomark _))
        (pss_cons (ps_asg (pe_ix (ixL K) (pv 2) (pv 3) (fun _ _ => rfl)) (pg_tupK K (n := 2) rfl (pgs_cons (pg_name (i := 4) sc_ways_from.nd rfl (.inl rfl)) (pgs_cons (pg_name (i := 5) sc_ways_from.nd rfl (.inl rfl)) pgs_nil))))
      (pss_cons (ps_for (passes_of rfl) rfl (pi_range1 rfl T.b_range (pa_cons (pe_callB (lenK K) rfl T.b_len PySem.boot_len (pa_cons (pv 0) pa_nil)) pa_nil)) (pg_name (i := 6) sc_ways_from.nd rfl (.inl rfl))
        (pss_cons (ps_set (i := 7) sc_ways_from.nd rfl (.inl rfl) (pe_call G_turned_by hr rfl T.m_turned_by T.F_turned_by.kp T.b_turned_by .nil pass0 (pa_cons (pv 5) (pa_cons (pv 6) pa_nil))))
      (pss_cons (ps_set (i := 8) sc_ways_from.nd rfl (.inl rfl) (pe_call G_key_of hr rfl T.m_key_of T.F_key_of.kp T.b_key_of .nil pass0 (pa_cons (pv 7) pa_nil)))
      (pss_one (ps_if (pt_cmpR (op_ninW P w hr.units65) (pv 8) (pv 1) rfl)
        (pss_cons (ps_if (pt_cmpR op_eq (pe_callB (lenW P w) rfl T.b_len PySem.boot_len (pa_cons (pv 1) pa_nil)) (pe_glob (v := .int 20) rfl T.m_MOST_FORMS ⟨_, rfl⟩) (nomark _))
        (pss_one (ps_raise rfl (takes_of rfl rfl rfl rfl) (pmk_own PySem.F.excBase_ValueError T.x_TooMany.xn T.x_TooMany.g T.x_TooMany.kp (raises_own T.x_TooMany.bs T.x_TooMany.ty) rfl)))
        pss_nil)
      (pss_cons (ps_asg (pe_op op_cat (pv 4) (pe_lst (pa_cons (pv 6) pa_nil))) (pg_sub (pv 1) (pv 8) (set_dictW P w hr.units65)))
      (pss_one (ps_expr (bmK K PySem.F.plainAttrs_list PySem.F.slot_list_append PySem.F.type_list_append mt_append (pv 2) (pa_cons (pe_tup (pa_cons (pe_op op_cat (pv 4) (pe_lst (pa_cons (pv 6) pa_nil))) (pa_cons (pv 7) pa_nil))) pa_nil))))))
        pss_nil)))))
      (pss_one (ps_set (i := 3) sc_ways_from.nd rfl (.inl rfl) (pe_op op_add (pv 3) pe_int))))))
      (pss_one (ps_ret (pv 1))))))))), ?_⟩
  refine ⟨.ref a, rfl, a, _, rfl, hM, small_fm (by have := hf.2.1; omega), fun H1 e1 => ⟨fun z => absurd (fmI hf) z, fun n' f' e hf' => ?_⟩⟩
  obtain ⟨rfl, _⟩ := fm_inj e
  refine ⟨fun z => by omega, fun _ => ?_⟩
  clear e hf'
  dsimp only
  have hn1 := hf.1
  have hM1 := hM.mono e1
  refine q_dictW fun d hd0 hds => ?_
  have ed : Ex H1 (upd H1 d (DD P w d [])) := Ex.new hd0
  have hkey : ∀ (σ : St) (G : Hp) (x : Addr) (g : Fun2) (i : Nat), σ[i]? = some (some (.ref x)) → LLI K G x (Fm n g) → Er (tCall (sp_key_of K) [] E0 (tCons (tVar i) tNil)) σ G (RKT (leastM n g)) := fun σ G x g i hi hx =>
    er_call mon_RKT (ea_cons (ev_var hi) ea_nil) fun G1 g1 Q' q' E' => ⟨x, n, g, rfl, hx.mono g1, by omega, fun H' b e hO => q' _ H' e ⟨b, rfl, hO⟩⟩
  refine q_setW (P := P) (w := w) (es := []) (M := leastM n f) (xs := []) mon_RKT (fun G1 G2 v ⟨b, hb, hO⟩ => ⟨b, hb, hO.kt⟩) (er_of_evl (el_lst ea_nil (by decide))) (ev_var rfl) (hkey _ _ a f 0 rfl (hM1.mono ed)) ⟨upd_same, hds, fun e he => by cases he⟩ (by simp) (by decide) fun v b H4 e4 hv hv4 ⟨b', hb', hO⟩ => ?_
  cases hb'
  refine qr_asg (er_lstQ mon_RQ (er_tupQ (xs := []) (p := a) (er_of_evl (el_lst ea_nil (by decide))) (ev_var rfl))) fun vq H5 e5 ⟨qa, x, hvq, hqa0, hqa, q, wy, hx, hq0, hq, hw0, hw⟩ => ?_
  subst hvq; subst hx
  have W0 : WIx P w K n H1 d qa [([], f)] H5 (del H5 d qa) [(leastM n f, b, v)] [q] := WIx.init hd0 hds e4 (hO.back ed) (fun _ _ _ _ => trivial) hO hv hv4 e5 hqa0 hqa hq0 hq hw0 hw hM1
  refine q_asg ev_c fun H6 e6 => ?_
  have W1 := W0.mono e6
  have hqaH : H1 qa = none := by
    have h1 : H4 qa = none := by
      by_cases c : qa = d
      · subst c
        rw [upd_same] at hqa0
        cases hqa0
      · rw [upd_ne c] at hqa0
        exact hqa0
    exact fresh_back (ed.trans e4) h1
  refine q_while (fun m σ' H' => ∃ (i : Nat) (S : List WE) (G : Hp) (es : List Ent) (qs : List Addr) (x4 x5 x6 x7 x8 : Option V), m = 21 - i ∧ σ' = [some (.ref a), some (.ref d), some (.ref qa), some (.int (i : Int)), x4, x5, x6, x7, x8] ∧ WIx P w K n H1 d qa S H' G es qs ∧ i ≤ S.length ∧ S.length ≤ 20 ∧ BitsS n S ∧ runW n (21 - i) i S = waysL n f) 21
    ⟨0, [([], f)], _, _, _, _, _, _, _, _, rfl, rfl, W1, by simp, by simp, bits_form hf, rfl⟩ (fun m σ' H' hW => ?_)
  obtain ⟨i, S, G, es, qs, x4, x5, x6, x7, x8, rfl, rfl, W, hiS, hS20, hB, hrun⟩ := hW
  have hlen := W.len
  refine ⟨_, et_test (ev_op (ev_var (v := .int (i : Int)) rfl) (ev_len (ev_var (v := .ref qa) rfl) (sq_of W.hq)) rv_I0), fun hb H7 e7 => ?_, fun hb H7 e7 => ?_⟩
  · rw [decide_eq_true_eq, List.length_map, hlen.2] at hb
    have hi : i < S.length := by omega
    have hi20 : i < 20 := by omega
    have hrun1 : runW n (21 - (i + 1)) (i + 1) (stepA n i S) = waysL n f := by
      rw [← hrun]
      have : 21 - i = (21 - (i + 1)) + 1 := by omega
      rw [this]
      show _ = (if i < S.length ∧ S.length ≤ 20 then _ else _)
      rw [if_pos ⟨hi, hS20⟩]
    refine ⟨fun σ2 H2 => ∃ m', m' < 21 - i ∧ ∃ (i : Nat) (S : List WE) (G : Hp) (es : List Ent) (qs : List Addr) (x4 x5 x6 x7 x8 : Option V), m' = 21 - i ∧ σ2 = [some (.ref a), some (.ref d), some (.ref qa), some (.int (i : Int)), x4, x5, x6, x7, x8] ∧ WIx P w K n H1 d qa S H2 G es qs ∧ i ≤ S.length ∧ S.length ≤ 20 ∧ BitsS n S ∧ runW n (21 - i) i S = waysL n f, fun _ _ h => h, ?_⟩
    have W7 := W.mono e7
    obtain ⟨s, hs⟩ : ∃ s, S[i]? = some s := ⟨_, List.getElem?_eq_getElem hi⟩
    have hsD : S.getD i we0 = s := by rw [List.getD_eq_getElem?_getD, hs]; rfl
    obtain ⟨q', hq', wy', fm, hz1, hz2, hz3⟩ := paired_get W7.hqs hs
    refine (ev_op (ta := tVar 2) (tb := tVar 3) (r := rIxL K) (σ := [some (.ref a), some (.ref d), some (.ref qa), some (.int (i : Int)), x4, x5, x6, x7, x8]) (H := H7) (x := .ref qa) (y := .int (i : Int)) (z := .ref q') (ev_var rfl) (ev_var rfl) (rv_ixL (sq_of W7.hq) (atI_n (by rw [List.getElem?_map, hq']; rfl)))) H7 (Ex.refl _) _ fun H8 e8 => ?_
    have W8 := W7.mono e8
    refine ⟨q', [.ref wy', .ref fm], rfl, st_of (W8.gh _ _ hz1), rfl, .ref wy', [.ref fm], rfl, .ref fm, [], rfl, rfl, ?_⟩
    refine q_forR1 (n := (n : Int)) (ea_cons (ev_lenFm (ev_var (v := .ref a) rfl) (hM1.mono (W8.hg.trans W8.gh))) ea_nil) (by omega) (fun j σ' H' => ∃ (G' : Hp) (es : List Ent) (qs : List Addr) (x6 x7 x8 : Option V), σ' = [some (.ref a), some (.ref d), some (.ref qa), some (.int (i : Int)), some (.ref wy'), some (.ref fm), x6, x7, x8] ∧ Ex G G' ∧ WIx P w K n H1 d qa ((List.range j).foldl (stepB n s) S) H' G' es qs ∧ ((List.range j).foldl (stepB n s) S).length ≤ 20 ∧ BitsS n ((List.range j).foldl (stepB n s) S))
      (fun H9 e9 => ⟨G, es, qs, _, _, _, rfl, Ex.refl _, W8.mono e9, hS20, hB⟩) (fun j σ' H9 hj hP => ?_) (fun σ' H9 hP => ?_)
    · obtain ⟨G', es, qs, x6, x7, x8, rfl, eG, W, hS20, hB⟩ := hP
      have hjn : j < n := by omega
      have hsj : ((List.range j).foldl (stepB n s) S)[i]? = some s := by
        obtain ⟨t, ht⟩ := fold_pre (n := n) (e := s) (List.range j) S
        rw [← ht, List.getElem?_append_left hi]
        exact hs
      have hstep := range_fold n s S j
      have hBj := bits_step hB hsj hjn
      have htot : isNew n ((List.range j).foldl (stepB n s) S) (addE s j) = true → ((List.range j).foldl (stepB n s) S).length = 20 → 20 < (waysL n f).length := fun h1 h2 => by
        have h3 : 20 < (stepA n i S).length := by
          unfold stepA
          rw [hsD, range_split (show j + 1 ≤ n by omega) s S n, hstep]
          have h4 : 20 < (stepB n s ((List.range j).foldl (stepB n s) S) j).length := by
            rw [stepB_add h1 (by omega), List.length_append, h2]
            exact Nat.lt_succ_self 20
          rw [fold_stuck h4]
          exact h4
        rw [← hrun1, runW_stuck h3]
        exact h3
      generalize (List.range j).foldl (stepB n s) S = Sj at *
      have hfm : LLI K H9 fm (Fm n s.2) := (hz3.mono eG).mono W.gh
      have hwy : H9 wy' = some (.lst ((nI s.1).map V.int)) := W.gh _ _ (eG _ _ hz2)
      have hsl : s.1.length ≤ 100 := by have := (hB i s hsj).2; omega
      refine qr_asg (er_call mon_RM (R := RM (Fm n (turnF s.2 j))) (ea_cons (ev_var (v := .ref fm) rfl) (ea_cons (ev_var (v := .int (j : Int)) rfl) ea_nil)) fun G1 g1 Q' q' E' => ⟨fm, n, s.2, j, bI i, rfl, hfm.mono g1, by omega, hjn, (hB i s hsj).1.to (by omega), fun H' p e hO => q' _ H' e ⟨p, rfl, hO⟩⟩) fun v H10 e10 ⟨p, hv, hOp⟩ => ?_
      subst hv
      refine qr_asg (hkey _ _ p (turnF s.2 j) 7 rfl hOp.lli) fun v H11 e11 ⟨bk, hv, hOk⟩ => ?_
      subst hv
      have e911 := e10.trans e11
      have W11 := W.mono e911
      have hnm : nmE n (addE s j) = leastM n (turnF s.2 j) := rfl
      refine s_when (b := isNew n Sj (addE s j)) (et_is (et_test (ev_op (ev_var (v := .ref bk) rfl) (ev_var (v := .ref d) rfl) (rv_ninW hOk.kt W11.dw))) (by rw [W11.names]; rfl)) (fun hb H12 e12 => ?_) (fun hb H12 e12 => ?_)
      · have W12 := W11.mono e12
        have hnin : leastM n (turnF s.2 j) ∉ es.map (·.1) := by
          rw [W12.names]
          unfold isNew at hb
          rw [Bool.not_eq_true', decide_eq_false_iff_not] at hb
          exact hb
        refine q_when (b := decide (Sj.length = 20)) (et_is (et_test (ev_op (ev_lenW (ev_var (v := .ref d) rfl) W12.dw (by rw [W12.len.1]; omega)) ev_c (rv_eq rfl))) (by rw [W12.len.1, decide_eq_decide]; exact ⟨fun h => by injection h; omega, fun h => by rw [h]; rfl⟩)) (fun hb2 H13 e13 => ?_) (fun hb2 H13 e13 => ?_)
        · rw [decide_eq_true_eq] at hb2
          exact q1 (htot hb hb2) H13 (e1.trans ((W12.hg.trans W12.gh).trans e13))
        · rw [decide_eq_false_iff_not] at hb2
          have W13 := W12.mono e13
          have e913 := (e911.trans e12).trans e13
          have e1113 := e12.trans e13
          have hwy13 := e913 _ _ hwy
          refine q_setW (P := P) (w := w) (es := es) (M := leastM n (turnF s.2 j)) (xs := nI s.1 ++ [(j : Int)]) (Rk := fun _ G2 v => v = .ref bk ∧ KT G2 bk (leastM n (turnF s.2 j))) ⟨fun e r => ⟨r.1, r.2.mono e⟩, fun _ r => r⟩ (fun G1 G2 v r => ⟨bk, r.1, r.2⟩) (er_catI (ev_var (v := .ref wy') rfl) hwy13 (ev_var (v := .int (j : Int)) rfl) (by rw [nI_len]; omega)) (ev_var (v := .ref d) rfl)
            (fun G1 g1 Q' q' => ⟨.ref bk, rfl, q' _ G1 (Ex.refl _) ⟨rfl, (hOk.kt.mono e1113).mono g1⟩⟩) W13.dw hnin (by rw [W13.len.1]; omega) fun v b' H14 e14 hv hv14 ⟨hb', _⟩ => ?_
          cases hb'
          have hxs : nI s.1 ++ [(j : Int)] = nI (addE s j).1 := by unfold nI addE; rw [List.map_append]; rfl
          rw [hxs] at hv14
          have e914 := e913.trans e14
          have hdn : ∀ y, upd H14 d (DD P w d (xsOf (es ++ [(leastM n (turnF s.2 j), bk, v)]))) y = none → H9 y = none := fun y hy => by
            by_cases c : y = d
            · subst c
              rw [upd_same] at hy
              cases hy
            · rw [upd_ne c] at hy
              exact fresh_back e914 hy
          have hwy14 : upd H14 d (DD P w d (xsOf (es ++ [(leastM n (turnF s.2 j), bk, v)]))) wy' = some (.lst ((nI s.1).map V.int)) := by
            rw [upd_ne]
            · exact e14 _ _ hwy13
            · intro c
              have := W13.hd
              rw [← c, hwy13] at this
              cases this
          have hqa14 : upd H14 d (DD P w d (xsOf (es ++ [(leastM n (turnF s.2 j), bk, v)]))) qa = some (.lst (qs.map V.ref)) := by
            rw [upd_ne]
            · exact e14 _ _ W13.hq
            · intro c
              have := W13.hd
              rw [← c, W13.hq] at this
              cases this
          refine s_appE mon_RQ (vs := qs.map V.ref) hqa14 (ev_var (v := .ref qa) rfl) (er_tupQ (xs := nI s.1 ++ [(j : Int)]) (p := p) (er_catI (ev_var (v := .ref wy') rfl) hwy14 (ev_var (v := .int (j : Int)) rfl) (by rw [nI_len]; omega)) (ev_var (v := .ref p) rfl)) (by rw [List.length_map, W13.len.2]; omega) fun x H15 e15 ⟨q9, wy9, hx, hq90, hq9, hw90, hw9⟩ => ?_
          subst hx
          rw [hxs] at hw9
          have WW := W.step (s := addE s j) (b := bk) (v := v) (p := p) (wy := wy9) (q := q9) e914 (((hOk.back e10).mono e1113).mono e14) (fresh_back e913 hv) hv14 (hOp.mono (e11.trans (e1113.trans e14))) e15 (hdn _ hw90) hw9 (hdn _ hq90) hq9
          have hSj : stepB n s Sj j = Sj ++ [addE s j] := if_pos ⟨hb, hS20⟩
          rw [List.map_append] at WW
          refine ⟨_, _, _, _, _, _, rfl, ?_, by rw [hstep, hSj]; exact WW, by rw [hstep, hSj, List.length_append]; show Sj.length + 1 ≤ 20; omega, by rw [hstep]; exact hBj⟩
          exact fun y o hy => by
            have hy' := eG _ _ hy
            have n1 : y ≠ d := fun z => by subst z; rw [W.gd] at hy'; cases hy'
            have n2 : y ≠ qa := fun z => by subst z; rw [W.gq] at hy'; cases hy'
            rw [del_ne n1 n2]
            exact e15 _ _ (by rw [upd_ne n1]; exact e914 _ _ (W.gh _ _ hy'))
      · have hSj : stepB n s Sj j = Sj := if_neg fun z => by rw [hb] at z; exact Bool.noConfusion z.1
        exact ⟨G', es, qs, _, _, _, rfl, eG, by rw [hstep, hSj]; exact W11.mono e12, by rw [hstep, hSj]; exact hS20, by rw [hstep]; exact hBj⟩
    · obtain ⟨G', es, qs, x6, x7, x8, rfl, eG, W, hS20', hB'⟩ := hP
      have hst : (List.range (n : Int).toNat).foldl (stepB n s) S = stepA n i S := by unfold stepA; rw [hsD, Int.toNat_natCast]
      rw [hst] at W hS20' hB'
      refine s_asg (ev_op (ev_var (v := .int (i : Int)) rfl) ev_c rv_I0) fun H10 e10 => ⟨21 - (i + 1), by omega, i + 1, stepA n i S, G', es, qs, _, _, _, _, _, rfl, rfl, W.mono e10, ?_, hS20', hB', hrun1⟩
      have := (fold_pre (n := n) (e := S.getD i we0) (List.range n) S).length_le
      show i + 1 ≤ (stepA n i S).length
      unfold stepA
      omega
  · rw [decide_eq_false_iff_not, List.length_map, hlen.2] at hb
    have htot : waysL n f = S := by
      rw [← hrun]
      have : 21 - i = (20 - i) + 1 := by omega
      rw [this]
      exact if_neg fun z => by omega
    have W7 := W.mono e7
    refine s_ret (ev_var (v := .ref d) rfl) fun H8 e8 => ?_
    have W8 := W7.mono e8
    refine q2 (by rw [htot]; exact hS20) H8 d es (e1.trans (W8.hg.trans W8.gh)) W8.dw ?_
    rw [htot]
    exact paired_mono W8.hes fun e s z => ⟨z.1, (z.2.mono W8.gh).back e1⟩
end
end AT

/-! ## our own lists of matrices, all apart -/
namespace AT
open PySem PySem.Spec PyProof.Rows L2 Evl
def LL3 (K : Frag) (H : Hp) (a : Addr) (Ms : List Mat) : Prop := ∃ as : List Addr, SqL K H a (as.map V.ref) ∧ Paired (fun x M => LLI K H x M) as Ms
theorem LL3.mono {K : Frag} {H H1 : Hp} {a : Addr} {Ms : List Mat} (e : Ex H H1) (h : LL3 K H a Ms) : LL3 K H1 a Ms := by
  obtain ⟨as, h1, h2⟩ := h
  exact ⟨as, ex_l e h1, paired_mono h2 fun _ _ z => z.mono e⟩
abbrev Zz := Addr × List Addr
def fl3 (zs : List Zz) : List Addr := zs.flatMap fun z => z.1 :: z.2
def OM (H0 H : Hp) (z : Zz) (M : Mat) : Prop := H0 z.1 = none ∧ H z.1 = some (.lst (z.2.map V.ref)) ∧ Paired (fun x r => OLI H0 H x r) z.2 M
def OL3 (H0 H : Hp) (p : Addr) (Ms : List Mat) : Prop := ∃ zs : List Zz, H0 p = none ∧ H p = some (.lst (zs.map fun z => V.ref z.1)) ∧ (p :: fl3 zs).Nodup ∧ Paired (OM H0 H) zs Ms
section
variable {K : Frag} {H H0 H1 Hb Hc : Hp} {p q x : Addr} {z : Zz} {M : Mat} {Ms : List Mat} {zs : List Zz}
theorem OM.mono (e : Ex H H1) (h : OM H0 H z M) : OM H0 H1 z M := ⟨h.1, e _ _ h.2.1, paired_mono h.2.2 fun _ _ w => w.mono e⟩
theorem OM.back (e : Ex H0 H1) (h : OM H1 H z M) : OM H0 H z M := ⟨fresh_back e h.1, h.2.1, paired_mono h.2.2 fun _ _ w => w.back e⟩
theorem OL3.mono (e : Ex H H1) (h : OL3 H0 H p Ms) : OL3 H0 H1 p Ms := by
  obtain ⟨zs, h0, h1, h2, h3⟩ := h
  exact ⟨zs, h0, e _ _ h1, h2, paired_mono h3 fun _ _ w => w.mono e⟩
theorem OL3.back (e : Ex H0 H1) (h : OL3 H1 H p Ms) : OL3 H0 H p Ms := by
  obtain ⟨zs, h0, h1, h2, h3⟩ := h
  exact ⟨zs, fresh_back e h0, h1, h2, paired_mono h3 fun _ _ w => w.back e⟩
theorem OM.lli (h : OM H0 H z M) : LLI K H z.1 M := ⟨z.2, sq_of h.2.1, paired_mono h.2.2 fun _ _ w => w.li⟩
theorem OL3.ll3 (h : OL3 H0 H p Ms) : LL3 K H p Ms := by
  obtain ⟨zs, h0, h1, h2, h3⟩ := h
  refine ⟨zs.map (·.1), sq_of (by rw [h1, List.map_map]; rfl), ?_⟩
  have := paired_map (F := fun x M => LLI K H x M) (f := fun z : Zz => z.1) (g := fun M : Mat => M) (fun z M w => w.lli) h3
  simpa using this
theorem OL3.len (h : OL3 H0 H p Ms) : ∃ vs : List V, H p = some (.lst vs) ∧ vs.length = Ms.length := by
  obtain ⟨zs, h0, h1, h2, h3⟩ := h
  exact ⟨_, h1, by rw [List.length_map, h3.length]⟩
theorem OL3.nil (h0 : H0 p = none) (h : H p = some (.lst [])) : OL3 H0 H p [] := ⟨[], h0, h, by simp [fl3], .nil⟩
theorem fl3_mem {zs : List Zz} {x : Addr} : x ∈ fl3 zs ↔ ∃ z, z ∈ zs ∧ (x = z.1 ∨ x ∈ z.2) := by
  unfold fl3
  simp only [List.mem_flatMap, List.mem_cons]
theorem om_there (h : OM H0 H z M) : ∀ x, (x = z.1 ∨ x ∈ z.2) → H x ≠ none ∧ H0 x = none := fun x hx => by
  rcases hx with rfl | hx
  · exact ⟨(by rw [h.2.1]; exact Option.some_ne_none _), h.1⟩
  · obtain ⟨r, _, hr⟩ := paired_mem h.2.2 hx
    exact ⟨(by rw [hr.2]; exact Option.some_ne_none _), hr.1⟩
theorem OL3.push (h : OL3 H0 Hb p Ms) (e0 : Ex H0 Hb) (e : Ex Hb Hc) (hq : OLLI Hb Hc q M) : ∃ vs : List V, Hc p = some (.lst vs) ∧ vs.length = Ms.length ∧ OL3 H0 (upd Hc p (.lst (vs ++ [.ref q]))) p (Ms ++ [M]) ∧ Ex H0 (upd Hc p (.lst (vs ++ [.ref q]))) := by
  obtain ⟨zs, h0, h1, h2, h3⟩ := h
  obtain ⟨rs, g0, g1, g2, g3⟩ := hq
  have hOM : OM Hb Hc (q, rs) M := ⟨g0, g1, g3⟩
  have old : ∀ x, x ∈ p :: fl3 zs → Hb x ≠ none := fun x hx => by
    rcases List.mem_cons.mp hx with rfl | hx
    · rw [h1]; exact fun c => nomatch c
    · obtain ⟨z, hz, hxz⟩ := fl3_mem.mp hx
      obtain ⟨M', _, hM'⟩ := paired_mem h3 hz
      exact (om_there hM' x hxz).1
  have new : ∀ x, x ∈ q :: rs → Hb x = none := fun x hx => (om_there hOM x (List.mem_cons.mp hx)).2
  refine ⟨_, e _ _ h1, by rw [List.length_map, h3.length], ⟨zs ++ [(q, rs)], h0, ?_, ?_, ?_⟩, Ex.mut (e0.trans e) h0⟩
  · rw [upd_same, List.map_append]; rfl
  · have hf : fl3 (zs ++ [(q, rs)]) = fl3 zs ++ (q :: rs) := by unfold fl3; rw [List.flatMap_append]; simp
    rw [hf, ← List.cons_append, List.nodup_append]
    exact ⟨h2, g2, fun x hx y hy c => by
      subst c
      exact old x hx (new x hy)⟩
  · have h4 : Paired (OM H0 Hc) (zs ++ [(q, rs)]) (Ms ++ [M]) := paired_append (paired_mono h3 fun _ _ w => w.mono e) (.cons (hOM.back e0) .nil)
    rw [List.nodup_cons] at h2
    refine paired_mem_mono h4 fun z N hz w => ?_
    have hne : ∀ x, (x = z.1 ∨ x ∈ z.2) → x ≠ p := fun x hx c => by
      subst c
      rcases List.mem_append.mp hz with hz | hz
      · exact h2.1 (fl3_mem.mpr ⟨z, hz, hx⟩)
      · rw [List.mem_singleton] at hz
        subst hz
        exact old x List.mem_cons_self (new x (List.mem_cons.mpr hx))
    exact ⟨w.1, by rw [upd_ne (hne _ (.inl rfl))]; exact w.2.1, paired_mem_mono w.2.2 fun x r hx hr => ⟨hr.1, by rw [upd_ne (hne _ (.inr hx))]; exact hr.2⟩⟩
def R3M (Ms : List Mat) : R3 := fun H1 H2 v => ∃ p, v = .ref p ∧ OL3 H1 H2 p Ms
theorem mon_R3M {Ms : List Mat} : Mon (R3M Ms) := ⟨fun e ⟨p, h, q⟩ => ⟨p, h, q.mono e⟩, fun e ⟨p, h, q⟩ => ⟨p, h, q.back e⟩⟩
end
section
variable {K : Frag} {σ : St} {H : Hp} {te tl : TE}
/-- a list of new matrices over what tl makes -/
theorem er_lc3 {R0 : R3} {j : Nat} {vs : List Nat} (Ms : List Mat) (h : Er tl σ H R0) (hz : Ms.length ≤ 10000) (hw : ∀ x, wipe ((wipe σ vs).set j (some x)) vs = wipe σ vs)
    (hs : ∀ H1 H2 v, Ex H H1 → Ex H1 H2 → R0 H1 H2 v → ∃ a xs, v = .ref a ∧ SqL K H2 a xs ∧ xs.length = Ms.length ∧ ∀ (i : Nat) x M H3, xs[i]? = some x → Ms[i]? = some M → Ex H2 H3 → Er te ((wipe σ vs).set j (some x)) H3 (RM M)) :
    Er (tLc (iList K tl) (gName j) tYes te vs) σ H (R3M Ms) := fun H0 e Q q => h H0 e _ fun v H1 e1 r => by
  obtain ⟨a, xs, ev, hx, hn, hi⟩ := hs H0 H1 v e e1 r
  subst ev
  exact ⟨a, rfl, ⟨xs, hx⟩, fun Dl hD =>
    lc_list (xs := xs) (fun i H' => Ex H1 H' ∧ OL3 H1 H' Dl (Ms.take i)) ⟨Ex.new hD, .nil hD upd_same⟩ (fun i H' _ p => ex_l p.1 hx) (fun i x H' hj p => ⟨hw x, by
      obtain ⟨p1, p2⟩ := p
      have hil := (List.getElem?_eq_some_iff.mp hj).1
      obtain ⟨M, hM⟩ : ∃ M, Ms[i]? = some M := ⟨_, List.getElem?_eq_getElem (by omega)⟩
      show te _ H' fun y H4 => ∃ acc, H4 Dl = some (.lst acc) ∧ acc.length < sizeLine ∧ Ex H1 (upd H4 Dl (.lst (acc ++ [y]))) ∧ OL3 H1 (upd H4 Dl (.lst (acc ++ [y]))) Dl (Ms.take (i + 1))
      refine hi i x M H1 hj hM (Ex.refl _) H' p1 _ fun v H4 e4 ⟨y, hv, hy⟩ => ?_
      subst hv
      obtain ⟨ws, h1, h2, h3, h4⟩ := p2.push p1 e4 hy
      refine ⟨ws, h1, sz_lt (by rw [h2, List.length_take]; omega), h4, ?_⟩
      rw [List.take_add_one, hM]
      exact h3⟩)
      (fun H' p => q _ H' (e1.trans p.1) ⟨Dl, rfl, by
        have := p.2
        rw [hn, List.take_length] at this
        exact this.back e1⟩)⟩
/-- [list(row) for row in key] -/
theorem er_lists {j : Nat} {vs : List Nat} {b : Addr} {M : Mat} (h : Ev tl σ H (.ref b)) (hb : KT H b M) (hz : M.length ≤ 10000) (hw : ∀ x, wipe ((wipe σ vs).set j (some x)) vs = wipe σ vs) (hj : ∀ x, ((wipe σ vs).set j (some x))[j]? = some (some x)) :
    Er (tLc (iTup K tl) (gName j) tYes (tCB (rListS K) (tCons (tVar j) tNil)) vs) σ H (RM M) := fun H0 e Q q => h H0 e _ fun H1 e1 => by
  obtain ⟨as, h1, h2⟩ := (hb.mono (e.trans e1))
  have hl := h2.length
  exact ⟨b, rfl, ⟨_, st_of h1⟩, fun Dl hD =>
    lc_tup (xs := as.map V.ref) (fun i H' => Ex H1 H' ∧ OLLI H1 H' Dl (M.take i)) ⟨Ex.new hD, .nil hD upd_same⟩ (fun i H' _ p => st_of (p.1 _ _ h1)) (fun i x H' hi p => ⟨hw x, by
      obtain ⟨p1, p2⟩ := p
      rw [List.getElem?_map] at hi
      cases hy : as[i]? with
      | none => rw [hy] at hi; cases hi
      | some y =>
        rw [hy] at hi
        cases hi
        obtain ⟨r, hr1, hr2⟩ := paired_getL h2 hy
        have hil := (List.getElem?_eq_some_iff.mp hr1).1
        show (tCB (rListS K) (tCons (tVar j) tNil)) _ H' fun y H4 => ∃ acc, H4 Dl = some (.lst acc) ∧ acc.length < sizeLine ∧ Ex H1 (upd H4 Dl (.lst (acc ++ [y]))) ∧ OLLI H1 (upd H4 Dl (.lst (acc ++ [y]))) Dl (M.take (i + 1))
        refine ⟨.ref y, hj _, y, _, rfl, .inr (st_of (p1 _ _ hr2)), fun l hl => ?_⟩
        have el := Ex.new (o := .lst (r.map V.int)) hl
        obtain ⟨ws, g1, g2, g3, g4⟩ := p2.push p1 el hl upd_same
        refine ⟨ws, g1, sz_lt (by rw [g2, List.length_take]; omega), g4, ?_⟩
        rw [List.take_add_one, hr1]
        exact g3⟩)
      (fun H' p => q _ H' (e1.trans p.1) ⟨Dl, rfl, by
        have := p.2
        rw [List.length_map, hl, List.take_length] at this
        exact this.back e1⟩)⟩
end
end AT

/-! ## reach, way -/
namespace AT
open PySem PySem.Spec PyProof.Rows L2 Evl
/-- the least names that turns lead to, in order -/
def reachM (n : Nat) (f : Fun2) : List Mat := sortMat ((waysL n f).map (nmE n))
def sp_reach (K : Frag) (CT : Addr) : Sp := fun vs H Q E => ∃ (a : Addr) (n : Nat) (f : Fun2), vs = [.ref a] ∧ LLI K H a (Fm n f) ∧ FormOf n f ∧ n ≤ 4 ∧ (20 < (waysL n f).length → ∀ H', Ex H H' → E (.ref CT) none H') ∧
  ((waysL n f).length ≤ 20 → ∀ H' p, Ex H H' → OL3 H H' p (reachM n f) → Q (.ref p) H')
/-- the first way to a form with that least name -/
def wayTo (n : Nat) (f : Fun2) (M : Mat) : Option WE := (waysL n f).find? fun s => decide (nmE n s = M)
def sp_way (K : Frag) (CT : Addr) : Sp := fun vs H Q E => ∃ (a b : Addr) (n m : Nat) (f g : Fun2), vs = [.ref a, .ref b] ∧ LLI K H a (Fm n f) ∧ FormOf n f ∧ n ≤ 4 ∧ LLI K H b (Fm m g) ∧ FormOf m g ∧ (20 < (waysL n f).length → ∀ H', Ex H H' → E (.ref CT) none H') ∧
  ((waysL n f).length ≤ 20 → (n ≠ m → ∀ H', Ex H H' → Q .non H') ∧ (n = m → (wayTo n f (leastM n g) = none → ∀ H', Ex H H' → Q .non H') ∧ ∀ s, wayTo n f (leastM n g) = some s → ∀ H' p, Ex H H' → OLI H H' p (nI s.1) → Q (.ref p) H'))
theorem find_paired {n : Nat} {H H' : Hp} {M : Mat} : ∀ {es : List Ent} {S : List WE}, Paired (fun e s => e.1 = nmE n s ∧ OLI H H' e.2.2 (nI s.1)) es S →
    match es.find? (fun e => decide (e.1 = M)), S.find? (fun s => decide (nmE n s = M)) with
    | some e, some s => OLI H H' e.2.2 (nI s.1)
    | none, none => True
    | _, _ => False
  | _, _, .nil => trivial
  | e :: es, s :: S, .cons r t => by
    rw [List.find?_cons, List.find?_cons, r.1]
    by_cases c : nmE n s = M
    · simp only [c, decide_true]
      exact r.2
    · simp only [c, decide_false]
      exact find_paired t
theorem ents_names {n : Nat} {H H' : Hp} : ∀ {es : List Ent} {S : List WE}, Paired (fun e s => e.1 = nmE n s ∧ OLI H H' e.2.2 (nI s.1)) es S → es.map (·.1) = S.map (nmE n)
  | _, _, .nil => rfl
  | _, _, .cons r t => by rw [List.map_cons, List.map_cons, r.1, ents_names t]
section
variable {P : Program} {w : World} {K : Frag} {mg : Str → Option Value} {base : Heap} {k : Nat}
theorem sort_ents (es : List Ent) : (es.mergeSort leE).map (·.1) = sortMat (es.map (·.1)) := List.map_mergeSort fun _ _ _ _ => rfl
theorem ok_reach (T : Txt K mg) (G_ways_from : FnOk P w K mg base (L2.CX P w) k T.f_ways_from T.d_ways_from ["form"] (sp_ways_from P w K T.c_TooMany)) : FnOk P w K mg base (L2.CX P w) (k + 1) T.f_reach T.d_reach ["form"] (sp_reach K T.c_TooMany) := by
  refine T.F_reach.okX sc_reach (fun vs H Q E h => ?_) (fun cdv A outer s H vs Q E hr h => ?_)
  · obtain ⟨a, n, f, rfl, _⟩ := h
    rfl
  obtain ⟨a, n, f, rfl, hM, hf, h4, q1, q2⟩ := h
  refine ⟨_, (pss_one (ps_ret (pe_lc (own := [("key", 1)]) rfl sc_reach.nd (pi_listK K (pe_callB (sortedW P w rfl hr.units) rfl T.b_sorted (by decide +kernel) (pa_cons (pe_call G_ways_from hr rfl T.m_ways_from T.F_ways_from.kp T.b_ways_from .nil (passes_call (takes_of rfl rfl rfl rfl) (fun _ _ _ _ h => h)) (pa_cons (pv 0) pa_nil)) pa_nil))) (blkOk_by (own := [("key", 1)]) (N := N_reach) (sc := defScope s_reach) (by decide +kernel)) (fun _ _ _ _ _ => (pg_name (i := 1) sc_reach.nd rfl (.inl rfl))) (fun _ _ _ _ _ => pts_nil) (fun _ _ _ _ _ => (pe_lc (own := [("row", 2)]) rfl sc_reach.nd (pi_tupK K (pv 1)) (blkOk_by (own := [("row", 2)]) (N := N_reach) (sc := relS { kind := .function, names := [(PySem.Str.ofString ".0", PySem.NameKind.local), (PySem.Str.ofString "key", PySem.NameKind.local)], isGenerator := false, isCoroutine := false, more := [] } (defScope s_reach)) (by decide +kernel)) (fun _ _ _ _ _ => (pg_name (i := 2) sc_reach.nd rfl (.inl rfl))) (fun _ _ _ _ _ => pts_nil) (fun _ _ _ _ _ => (pe_callTy (listK K) rfl T.b_list (by decide +kernel) (pa_cons (pv 2) pa_nil)))))))), ?_⟩
  refine ⟨.ref a, rfl, a, n, f, rfl, hM, hf, h4, q1, fun h20 H1 d es e1 hd hes => ?_⟩
  have hel := hes.length
  have hne : ∀ e, e ∈ es → e.1 ≠ [] := fun e he z => by
    obtain ⟨s, _, hs, _⟩ := paired_mem hes he
    rw [z] at hs
    have := congrArg List.length hs
    unfold nmE at this
    rw [least_len] at this
    have := hf.1
    simp at *
    omega
  have hnm : es.map (·.1) = (waysL n f).map (nmE n) := ents_names hes
  refine ⟨d, es, rfl, hd, hne, by omega, fun p hp => ?_⟩
  have ep : Ex H1 (upd H1 p (.lst ((es.mergeSort leE).map fun e => V.ref e.2.1))) := Ex.new hp
  have hlen : (reachM n f).length = es.length := by unfold reachM sortMat; rw [List.length_mergeSort, List.length_map, hel]
  refine (er_lc3 (K := K) (σ := [some (V.ref a), none, none]) (H := upd H1 p (.lst ((es.mergeSort leE).map fun e => V.ref e.2.1))) (tl := fun σ H' Q => Q (.ref p) H') (te := tLc (iTup K (tVar 1)) (gName 2) tYes (tCB (rListS K) (tCons (tVar 2) tNil)) [2]) (j := 1) (vs := [1]) (R0 := fun _ H2 v => v = .ref p ∧ H2 p = some (.lst ((es.mergeSort leE).map fun e => V.ref e.2.1)) ∧ Ex H1 H2) (reachM n f) (fun G1 g1 Q' q' => q' _ G1 (Ex.refl _) ⟨rfl, g1 _ _ upd_same, ep.trans g1⟩) (by omega) (fun _ => rfl) (fun G1 G2 v g1 g2 ⟨hv, hp2, e12⟩ => ?_)) _ (Ex.refl _) _ fun v H3 e3 ⟨r, hv, hr⟩ => ?_
  · refine ⟨p, _, hv, sq_of hp2, by rw [List.length_map, List.length_mergeSort, hlen], fun i x M G3 hx hM' g3 => ?_⟩
    rw [List.getElem?_map] at hx
    cases hy : (es.mergeSort leE)[i]? with
    | none => rw [hy] at hx; cases hx
    | some e =>
      rw [hy] at hx
      cases hx
      have hM2 : e.1 = M := by
        unfold reachM at hM'
        rw [← hnm, ← sort_ents, List.getElem?_map, hy] at hM'
        exact Option.some.inj hM'
      have hem : e ∈ es := List.mem_mergeSort.mp (List.mem_of_getElem? hy)
      rw [← hM2]
      refine er_lists (ev_var rfl) ((hd.2.2 e hem).mono (e12.trans g3)) ?_ (fun _ => rfl) (fun _ => rfl)
      obtain ⟨s, _, hs, _⟩ := paired_mem hes hem
      rw [hs]
      unfold nmE
      rw [least_len]
      omega
  · subst hv
    exact q2 h20 H3 r (e1.trans (ep.trans e3)) ((hr.back ep).back e1)
theorem ok_way (T : Txt K mg) (G_must_form : FnOk P w K mg base (L2.CX P w) k T.f_must_form T.d_must_form ["form"] (sp_must_form K T.c_NoForm)) (G_ways_from : FnOk P w K mg base (L2.CX P w) k T.f_ways_from T.d_ways_from ["form"] (sp_ways_from P w K T.c_TooMany)) (G_key_of : FnOk P w K mg base CX0 k T.f_key_of T.d_key_of ["form"] (sp_key_of K)) :
    FnOk P w K mg base (L2.CX P w) (k + 1) T.f_way T.d_way ["form", "other"] (sp_way K T.c_TooMany) := by
  refine T.F_way.okX sc_way (fun vs H Q E h => ?_) (fun cdv A outer s H vs Q E hr h => ?_)
  · obtain ⟨a, b, n, m, f, g, rfl, _⟩ := h
    rfl
  obtain ⟨a, b, n, m, f, g, rfl, hM, hf, h4, hN, hg, q1, q2⟩ := h
  refine ⟨_, (pss_cons (ps_expr (pe_call G_must_form hr rfl T.m_must_form T.F_must_form.kp T.b_must_form .nil (passes_call (takes_of rfl rfl rfl rfl) (fun _ _ _ _ h => h)) (pa_cons (pv 0) pa_nil)))
      (pss_cons (ps_expr (pe_call G_must_form hr rfl T.m_must_form T.F_must_form.kp T.b_must_form .nil (passes_call (takes_of rfl rfl rfl rfl) (fun _ _ _ _ h => h)) (pa_cons (pv 1) pa_nil)))
      (pss_cons (ps_set (i := 2) sc_way.nd rfl (.inl rfl) (pe_call G_ways_from hr rfl T.m_ways_from T.F_ways_from.kp T.b_ways_from .nil (passes_call (takes_of rfl rfl rfl rfl) (fun _ _ _ _ h => h)) (pa_cons (pv 0) pa_nil)))
      (pss_cons (ps_if (pt_cmpR op_ne (pe_callB (lenK K) rfl T.b_len PySem.boot_len (pa_cons (pv 0) pa_nil)) (pe_callB (lenK K) rfl T.b_len PySem.boot_len (pa_cons (pv 1) pa_nil)) (nomark _))
        (pss_one (ps_ret pe_non))
        pss_nil)
      (pss_one (ps_ret (pe_getW P w hr.units65 (pv 2) (pe_call G_key_of hr rfl T.m_key_of T.F_key_of.kp T.b_key_of .nil pass0 (pa_cons (pv 1) pa_nil)) ⟨rfl, rfl, rfl, rfl⟩))))))), ?_⟩
  refine ⟨.ref a, rfl, a, _, rfl, hM, small_fm (by omega), fun H1 e1 => ⟨fun _ => ?_, fun z => absurd (fmI hf) z⟩⟩
  refine ⟨.ref b, rfl, b, _, rfl, hN.mono e1, small_fm (by have := hg.2.1; omega), fun H2 e2 => ⟨fun _ => ?_, fun z => absurd (fmI hg) z⟩⟩
  have e02 := e1.trans e2
  refine ⟨.ref a, rfl, a, n, f, rfl, hM.mono e02, hf, h4, fun h H3 e3 => q1 h H3 (e02.trans e3), fun h20 H3 d es e3 hd hes => ?_⟩
  have e03 := e02.trans e3
  obtain ⟨q3, q4⟩ := q2 h20
  show tSeq _ _ _ _ _
  refine q_when (b := !decide (n = m)) (et_is (et_test (ev_op (ev_lenFm (ev_var (v := .ref a) rfl) (hM.mono e03)) (ev_lenFm (ev_var (v := .ref b) rfl) (hN.mono e03)) (rv_ne rfl))) (by congr 1; rw [decide_eq_decide]; exact ⟨fun h => by injection h; omega, fun h => by rw [h]⟩)) (fun hb H4 e4 => s_ret ev_c fun H5 e5 => ?_) (fun hb H4 e4 => ?_)
  · exact q3 (by simpa using hb) H5 (e03.trans (e4.trans e5))
  · have hnm : n = m := by simpa using hb
    subst hnm
    obtain ⟨q5, q6⟩ := q4 rfl
    have hd4 := hd.mono e4
    refine ⟨.ref d, rfl, d, es, rfl, hd4, .ref b, rfl, b, n, g, rfl, hN.mono (e03.trans e4), by omega, fun H5 bk e5 hO => ⟨bk, leastM n g, rfl, hd4.mono e5, hO.kt, ?_⟩⟩
    have hfp := find_paired (M := leastM n g) hes
    have e35 := e4.trans e5
    cases h1 : es.find? (fun e => decide (e.1 = leastM n g)) with
    | none =>
      rw [h1] at hfp
      cases h2 : (waysL n f).find? (fun s => decide (nmE n s = leastM n g)) with
      | none => exact q5 h2 H5 (e03.trans e35)
      | some s => rw [h2] at hfp; exact hfp.elim
    | some e =>
      rw [h1] at hfp
      cases h2 : (waysL n f).find? (fun s => decide (nmE n s = leastM n g)) with
      | none => rw [h2] at hfp; exact hfp.elim
      | some s =>
        rw [h2] at hfp
        exact q6 s h2 H5 e.2.2 (e03.trans e35) ((OLI.mono e35 hfp).back e02)
end
end AT

/-! ## the law's own list of ways -/
namespace AT
open PySem PySem.Spec PyProof.Rows L2 Evl
def sp__law_least (K : Frag) : Sp := sp_least_by K
/-- what the law's list holds of one -/
def QW (K : Frag) (H : Hp) (n : Nat) (q : Addr) (s : WE) : Prop := ∃ wy nm fm, H q = some (.tup [.ref wy, .ref nm, .ref fm]) ∧ H wy = some (.lst ((nI s.1).map V.int)) ∧ LLI K H nm (nmE n s) ∧ LLI K H fm (Fm n s.2)
theorem QW.mono {K : Frag} {H H1 : Hp} {n : Nat} {q : Addr} {s : WE} (e : Ex H H1) (h : QW K H n q s) : QW K H1 n q s := by
  obtain ⟨wy, nm, fm, h1, h2, h3, h4⟩ := h
  exact ⟨wy, nm, fm, e _ _ h1, e _ _ h2, h3.mono e, h4.mono e⟩
def OWL (K : Frag) (n : Nat) (H0 H : Hp) (p : Addr) (S : List WE) : Prop := H0 p = none ∧ ∃ qs : List Addr, H p = some (.lst (qs.map V.ref)) ∧ Paired (QW K H n) qs S
theorem OWL.mono {K : Frag} {n : Nat} {H0 H H1 : Hp} {p : Addr} {S : List WE} (e : Ex H H1) (h : OWL K n H0 H p S) : OWL K n H0 H1 p S := by
  obtain ⟨h0, qs, h1, h2⟩ := h
  exact ⟨h0, qs, e _ _ h1, paired_mono h2 fun _ _ z => z.mono e⟩
def sp__law_ways (K : Frag) : Sp := fun vs H Q _ => ∃ (a : Addr) (n : Nat) (f : Fun2), vs = [.ref a] ∧ LLI K H a (Fm n f) ∧ FormOf n f ∧ n ≤ 4 ∧ ∀ H' p, Ex H H' → OWL K n H H' p (waysL n f) → Q (.ref p) H'
structure WLx (K : Frag) (n : Nat) (H : Hp) (wa : Addr) (S : List WE) (H' G : Hp) (qs : List Addr) : Prop where
  hg : Ex H G
  gq : G wa = none
  gh : Ex G H'
  hq : H' wa = some (.lst (qs.map V.ref))
  hqs : Paired (QW K G n) qs S
section
variable {K : Frag} {n : Nat} {H H' H1 H7 G : Hp} {wa p nm wy q : Addr} {S : List WE} {qs : List Addr} {s : WE} {σ : St} {ta tb tc te : TE}
theorem WLx.mono (e : Ex H' H1) (h : WLx K n H wa S H' G qs) : WLx K n H wa S H1 G qs := ⟨h.hg, h.gq, h.gh.trans e, e _ _ h.hq, h.hqs⟩
theorem WLx.step (h : WLx K n H wa S H' G qs) (e7 : Ex H' H7) (hp : OLLI H' H7 p (Fm n s.2)) (hn : OLLI H' H7 nm (nmE n s)) (hw : H' wy = none) (hw7 : H7 wy = some (.lst ((nI s.1).map V.int))) (hq : H' q = none) (hq7 : H7 q = some (.tup [.ref wy, .ref nm, .ref p])) :
    WLx K n H wa (S ++ [s]) (upd H7 wa (.lst ((qs ++ [q]).map V.ref))) (del H7 wa wa) (qs ++ [q]) := by
  have nd : ∀ {y : Addr}, H' y = none → y ≠ wa := fun {y} hy z => by subst z; rw [h.hq] at hy; cases hy
  have c7 : ∀ {y : Addr} {o : HO}, H' y = none → H7 y = some o → del H7 wa wa y = some o := fun {y o} hy h4 => by
    rw [del_ne (nd hy) (nd hy)]
    exact h4
  have eG : Ex G (del H7 wa wa) := ex_del (h.gh.trans e7) h.gq h.gq
  have cl : ∀ {y : Addr} {M : Mat}, OLLI H' H7 y M → LLI K (del H7 wa wa) y M := fun {y M} ho => by
    obtain ⟨as, h0, h1, _, h2⟩ := ho
    exact ⟨as, sq_of (c7 h0 h1), paired_mono h2 fun _ _ z => sq_of (c7 z.1 z.2)⟩
  refine ⟨h.hg.trans eG, if_pos (.inl rfl), fun y o hy => ?_, upd_same, paired_append (paired_mono h.hqs fun _ _ z => z.mono eG) (.cons ⟨wy, nm, p, c7 hq hq7, c7 hw hw7, cl hn, cl hp⟩ .nil)⟩
  have n1 : y ≠ wa := fun c => by
    subst c
    rw [show del H7 y y y = none from if_pos (.inl rfl)] at hy
    cases hy
  rw [upd_ne n1]
  exact del_ex _ _ hy
/-- a tuple (a new list, nm, p) -/
def RQ3 (xs : List Int) (nm p : Addr) : R3 := fun H1 H2 v => ∃ q wy, v = .ref q ∧ H1 q = none ∧ H2 q = some (.tup [.ref wy, .ref nm, .ref p]) ∧ H1 wy = none ∧ H2 wy = some (.lst (xs.map V.int))
theorem mon_RQ3 {xs : List Int} {nm p : Addr} : Mon (RQ3 xs nm p) := ⟨fun e ⟨q, wy, h, h1, h2, h3, h4⟩ => ⟨q, wy, h, h1, e _ _ h2, h3, e _ _ h4⟩, fun e ⟨q, wy, h, h1, h2, h3, h4⟩ => ⟨q, wy, h, fresh_back e h1, h2, fresh_back e h3, h4⟩⟩
theorem er_tupQ3 {xs : List Int} (h1 : Er ta σ H (RL xs)) (h2 : Ev tb σ H (.ref nm)) (h3 : Ev tc σ H (.ref p)) : Er (tTup (tCons ta (tCons tb (tCons tc tNil)))) σ H (RQ3 xs nm p) := fun H1 e Q q =>
  h1 H1 e _ fun v H2 e2 ⟨y, hy, hO⟩ => h2 H2 (e.trans e2) _ fun H3 e3 => h3 H3 ((e.trans e2).trans e3) _ fun H4 e4 => by
    subst hy
    refine ⟨by show 3 ≤ sizeLine; decide, fun t ht => ?_⟩
    have et := Ex.new (o := .tup [.ref y, .ref nm, .ref p]) ht
    exact q _ _ (((e2.trans e3).trans e4).trans et) ⟨t, y, rfl, fresh_back ((e2.trans e3).trans e4) ht, upd_same, hO.1, ((e3.trans e4).trans et) _ _ hO.2⟩
theorem er_lway0 {M : Mat} {a : Addr} (h1 : Er ta σ H (RL [])) (h2 : Er tb σ H (RM M)) (h3 : Ev tc σ H (.ref a)) : Er (tLst (tCons (tTup (tCons ta (tCons tb (tCons tc tNil)))) tNil)) σ H
    (fun H1 H2 v => ∃ wa q wy nm, v = .ref wa ∧ H1 wa = none ∧ H2 wa = some (.lst [.ref q]) ∧ H1 q = none ∧ H2 q = some (.tup [.ref wy, .ref nm, .ref a]) ∧ H1 wy = none ∧ H2 wy = some (.lst []) ∧ OLLI H1 H2 nm M) := fun G1 g1 Q' q' =>
  h1 G1 g1 _ fun v H2 e2 ⟨y, hy, hO⟩ => h2 H2 (g1.trans e2) _ fun v3 H3 e3 ⟨nm, hv, hN⟩ => h3 H3 ((g1.trans e2).trans e3) _ fun H4 e4 => by
    subst hy; subst hv
    refine ⟨by show 3 ≤ sizeLine; decide, fun t ht => ⟨by show 1 ≤ sizeLine; decide, fun l hl => ?_⟩⟩
    have et := Ex.new (o := .tup [.ref y, .ref nm, .ref a]) ht
    have el := Ex.new (o := .lst [.ref t]) hl
    have e24 := (e3.trans e4).trans (et.trans el)
    exact q' _ _ (e2.trans e24) ⟨l, t, y, nm, rfl, fresh_back (((e2.trans e3).trans e4).trans et) hl, upd_same, fresh_back ((e2.trans e3).trans e4) ht, el _ _ upd_same, hO.1, e24 _ _ hO.2, (hN.mono (e4.trans (et.trans el))).back e2⟩
theorem dpAll_Ms : ∀ {as : List Addr} {Ms : List Mat}, Paired (fun x M => LLI K H x M) as Ms → DpAll K H (as.map V.ref) (Ms.map fun M => .list (dM M))
  | _, _, .nil => .nil
  | _, _, .cons r t => .cons r.dp (dpAll_Ms t)
theorem canLay_Ms : ∀ Ms : List Mat, PyData.canLayAll0 (Ms.map fun M => PyData.list (dM M)) = true
  | [] => by simp [PyData.canLayAll0]
  | M :: Ms => by
    have h1 := canLay_rows M
    simp only [List.map_cons, PyData.canLayAll0, PyData.canLay0, h1, canLay_Ms Ms, Bool.and_self]
theorem depth_Ms : ∀ Ms : List Mat, PyData.depthAll (Ms.map fun M => PyData.list (dM M)) ≤ 3
  | [] => by simp [PyData.depthAll]
  | M :: Ms => by
    have h1 := depth_rows M
    have h2 := depth_Ms Ms
    simp only [List.map_cons, PyData.depthAll, PyData.depth]
    omega
theorem shaped_Ms (Ms : List Mat) : SeqAt.shaped (.list (Ms.map fun M => PyData.list (dM M))) = true := by
  unfold SeqAt.shaped
  rw [Bool.and_eq_true]
  have h2 := depth_Ms Ms
  refine ⟨by simp only [PyData.canLay0]; exact canLay_Ms Ms, decide_eq_true ?_⟩
  simp only [PyData.depth]
  omega
theorem any_Ms (M : Mat) : ∀ Ms : List Mat, ((Ms.map fun M => PyData.list (dM M)).any fun z => PyData.eqv z (.list (dM M))) = decide (M ∈ Ms)
  | [] => by simp
  | N :: Ms => by
    rw [List.map_cons, List.any_cons, any_Ms M Ms]
    show (PyData.eqvAll (dM N) (dM M) || decide (M ∈ Ms)) = _
    rw [eqv_M]
    by_cases h : N = M
    · subst h; simp
    · have : ¬ M = N := fun z => h z.symm
      simp [h, this]
theorem LL3.dp {a : Addr} {Ms : List Mat} (h : LL3 K H a Ms) : Dp K H (.ref a) (.list (Ms.map fun M => .list (dM M))) := by
  obtain ⟨as, h1, h2⟩ := h
  exact .lst h1 (dpAll_Ms h2)
theorem rv_ninMs {x a : Addr} {M : Mat} {Ms : List Mat} (hx : LLI K H x M) (ha : LL3 K H a Ms) : RV (rNotInD K) (.ref x) (.ref a) H (.bl (!decide (M ∈ Ms))) := fun G g Q k =>
  ⟨_, _, (hx.mono g).dp, (ha.mono g).dp, shaped_M M, shaped_Ms Ms, by rw [any_Ms]; exact k G (Ex.refl _)⟩
theorem rv_inMs {x a : Addr} {M : Mat} {Ms : List Mat} (hx : LLI K H x M) (ha : LL3 K H a Ms) : RV (rInD K) (.ref x) (.ref a) H (.bl (decide (M ∈ Ms))) := fun G g Q k =>
  ⟨_, _, (hx.mono g).dp, (ha.mono g).dp, shaped_M M, shaped_Ms Ms, by rw [any_Ms]; exact k G (Ex.refl _)⟩
/-- [one[1] for one in ways] -/
theorem er_names {j : Nat} {vs : List Nat} {tl ti : TE} (h : Ev tl σ H (.ref wa)) (hq : H wa = some (.lst (qs.map V.ref))) (hqs : Paired (QW K H n) qs S) (hl : S.length ≤ 1000) (hw : ∀ x, wipe ((wipe σ vs).set j (some x)) vs = wipe σ vs) (hj : ∀ x, ((wipe σ vs).set j (some x))[j]? = some (some x))
    (hi : ∀ x H1, Ev ti ((wipe σ vs).set j (some x)) H1 (.int 1)) : Er (tLc (iList K tl) (gName j) tYes (tOp (rIxT K) (tVar j) ti) vs) σ H (fun H1 H2 v => ∃ p, v = .ref p ∧ H1 p = none ∧ LL3 K H2 p (S.map (nmE n))) := fun H1 e Q q => by
  obtain ⟨ms, hms⟩ : ∃ ms : List Addr, Paired (fun m (z : Addr × WE) => ∃ wy fm, H z.1 = some (.tup [.ref wy, .ref m, .ref fm]) ∧ LLI K H m (nmE n z.2)) ms (qs.zip S) ∧ ms.length = S.length := by
    have key : ∀ {qs : List Addr} {S : List WE}, Paired (QW K H n) qs S → ∃ ms : List Addr, Paired (fun m (z : Addr × WE) => ∃ wy fm, H z.1 = some (.tup [.ref wy, .ref m, .ref fm]) ∧ LLI K H m (nmE n z.2)) ms (qs.zip S) ∧ ms.length = S.length := fun {qs S} hP => by
      induction hP with
      | nil => exact ⟨[], .nil, rfl⟩
      | cons r t ih =>
        obtain ⟨ms, h1, h2⟩ := ih
        obtain ⟨wy, nm, fm, r1, r2, r3, r4⟩ := r
        exact ⟨nm :: ms, .cons ⟨wy, fm, r1, r3⟩ h1, by rw [List.length_cons, List.length_cons, h2]⟩
    exact key hqs
  obtain ⟨hms, hml⟩ := hms
  have hql := hqs.length
  have hlc := el_lcL (K := K) (te := tOp (rIxT K) (tVar j) ti) (t := tYes) (fun _ => true) (fun i => .ref (ms.getD i 0)) h (sq_of hq) (by rw [List.length_map]; omega) hw (fun _ _ _ _ _ _ _ Q q => q _ (Ex.refl _)) (fun i x G1 g1 hx _ => by
    rw [List.getElem?_map] at hx
    cases hy : qs[i]? with
    | none => rw [hy] at hx; cases hx
    | some y =>
      rw [hy] at hx
      cases hx
      have hil := (List.getElem?_eq_some_iff.mp hy).1
      have hz : (qs.zip S)[i]? = some (y, S[i]) := by
        rw [List.getElem?_zip_eq_some]
        exact ⟨hy, List.getElem?_eq_getElem (by omega)⟩
      obtain ⟨m, hm, wy, fm, h1, _⟩ := paired_get hms hz
      have e : ms.getD i 0 = m := by rw [List.getD_eq_getElem?_getD, hm]; rfl
      rw [e]
      exact ev_op (ev_var (hj _)) (hi _ G1) (rv_ixT (st_of (g1 _ _ h1)) (atI_n (i := 1) rfl)))
  have hgv : given (qs.map V.ref).length (fun _ => true) (fun i => V.ref (ms.getD i 0)) = ms.map V.ref := by
    unfold given
    rw [filt_all, List.length_map, hql, ← hml]
    conv => rhs; rw [list_eq_range 0 ms]
    rw [List.map_map]
    rfl
  rw [hgv] at hlc
  refine hlc H1 e _ fun p H2 hp e2 hp2 => q _ H2 e2 ⟨p, rfl, hp, ms, sq_of hp2, ?_⟩
  refine paired_of (by rw [hml, List.length_map]) fun i x M hx hM => ?_
  obtain ⟨z, hz, wy, fm, _, h2⟩ := paired_getL hms hx
  rw [List.getElem?_zip_eq_some] at hz
  rw [List.getElem?_map, hz.2] at hM
  cases hM
  exact h2.mono (e.trans e2)
end
section
variable {P : Program} {w : World} {K : Frag} {mg : Str → Option Value} {base : Heap} {k : Nat}
end
end AT

/-! ## lists of matrices looked at; what reach and way tell -/
namespace AT
open PySem PySem.Spec PyProof.Rows L2 Evl L2H
def TL3 (H : Hp) (a : Addr) (Ms : List Mat) : Prop := ∃ as : List Addr, H a = some (.lst (as.map V.ref)) ∧ Paired (fun x M => TLL H x M) as Ms
theorem OL3.tl3 {H0 H : Hp} {p : Addr} {Ms : List Mat} (h : OL3 H0 H p Ms) : TL3 H p Ms := by
  obtain ⟨zs, h0, h1, h2, h3⟩ := h
  rw [List.nodup_cons] at h2
  refine ⟨zs.map (·.1), by rw [h1, List.map_map]; rfl, ?_⟩
  have h4 : Paired (fun (z : Zz) M => TLL H z.1 M) zs Ms := paired_mem_mono h3 fun z M hz w => by
    have hnd : (z.1 :: z.2).Nodup := by
      have : (z.1 :: z.2).Sublist (fl3 zs) := by
        unfold fl3
        obtain ⟨s, t, rfl⟩ := List.append_of_mem hz
        rw [List.flatMap_append, List.flatMap_cons]
        exact (List.sublist_append_left _ _).trans (List.sublist_append_right _ _)
      exact h2.2.sublist this
    exact ⟨z.2, rfl, w.2.1, hnd, paired_mono w.2.2 fun _ _ u => ⟨rfl, u.2⟩⟩
  have := paired_map (F := fun x M => TLL H x M) (f := fun z : Zz => z.1) (g := fun M : Mat => M) (fun z M w => w) h4
  simpa using this
theorem TL3.mono {H H1 : Hp} {a : Addr} {Ms : List Mat} (e : Ex H H1) (h : TL3 H a Ms) : TL3 H1 a Ms := by
  obtain ⟨as, h1, h2⟩ := h
  exact ⟨as, e _ _ h1, paired_mono h2 fun _ _ z => OLLI.mono e z⟩
def sp__law_forms (K : Frag) : Sp := fun vs H Q _ => ∃ (a b : Addr) (Ms Ns : List Mat), vs = [.ref a, .ref b] ∧ TL3 H a Ms ∧ LL3 K H b Ns ∧ (∀ M, M ∈ Ms → SmallM M) ∧ Ms.length ≤ 1000 ∧ ∀ H', Ex H H' → Q (.bl (decide (Ms = Ns))) H'
section
variable {K : Frag} {σ : St} {H : Hp} {te tl : TE} {p : Addr}
theorem all_range (n : Nat) (b : Nat → Bool) : (((List.range n).map b).all id) = (List.range n).all b := by rw [List.all_map]; rfl
theorem ev_allB {n : Nat} {b : Nat → Bool} (h : EvL te σ H (given n (fun _ => true) fun i => .bl (b i))) : Ev (tCB (rAll K) (tCons te tNil)) σ H (.bl ((List.range n).all b)) := fun H1 e Q q =>
  h H1 e _ fun p H2 hp e2 hp2 => ⟨p, (List.range n).map b, rfl, by
    have : given n (fun _ => true) (fun i => V.bl (b i)) = ((List.range n).map b).map V.bl := by
      unfold given
      rw [filt_all, List.map_map]; rfl
    rw [this] at hp2
    exact sq_of hp2, by rw [all_range]; exact q H2 e2⟩
theorem all_eq {Ms Ns : List Mat} (hl : Ms.length = Ns.length) : ((List.range Ms.length).all fun i => decide (Ms.getD i [] = Ns.getD i [])) = decide (Ms = Ns) := by
  rw [Bool.eq_iff_iff, List.all_eq_true, decide_eq_true_eq]
  constructor
  · intro h
    apply List.ext_getElem hl
    intro i h1 h2
    have := h i (List.mem_range.mpr h1)
    rw [decide_eq_true_eq, List.getD_eq_getElem?_getD, List.getD_eq_getElem?_getD, List.getElem?_eq_getElem h1, List.getElem?_eq_getElem h2] at this
    exact this
  · rintro rfl i _
    simp
/-- f[1:] of such lists -/
theorem er_slice3 {Ms : List Mat} (h : Ev te σ H (.ref p)) (hM : TL3 H p Ms) : Er (tSl (rSlL K) te (tPart (tC (.int 1))) tNoPart) σ H (fun _ H2 v => ∃ y, v = .ref y ∧ TL3 H2 y (Ms.drop 1)) := fun H1 e Q q => by
  obtain ⟨as, h1, h2⟩ := hM
  refine el_sl h (eo_some ev_c) eo_none (sq_of h1) H1 e _ fun y H2 hy e2 hy2 => q _ H2 e2 ⟨y, rfl, as.drop 1, by rw [hy2, cut1, List.map_drop], paired_drop 1 (paired_mono h2 fun _ _ z => OLLI.mono (e.trans e2) z)⟩
theorem er_sliceL3 {Ms : List Mat} (h : Ev te σ H (.ref p)) (hM : LL3 K H p Ms) : Er (tSl (rSlL K) te (tPart (tC (.int 1))) tNoPart) σ H (fun _ H2 v => ∃ y, v = .ref y ∧ LL3 K H2 y (Ms.drop 1)) := fun H1 e Q q => by
  obtain ⟨as, h1, h2⟩ := hM
  refine el_sl h (eo_some ev_c) eo_none h1 H1 e _ fun y H2 hy e2 hy2 => q _ H2 e2 ⟨y, rfl, as.drop 1, sq_of (by rw [hy2, cut1, List.map_drop]), paired_drop 1 (paired_mono h2 fun _ _ z => z.mono (e.trans e2))⟩
theorem zip_any {β : Type} : ∀ {as : List Addr} {ls : List β}, as.length = ls.length → as = (as.zip ls).map (·.1) ∧ ls = (as.zip ls).map (·.2)
  | [], [], _ => ⟨rfl, rfl⟩
  | [], _ :: _, h => by simp at h
  | _ :: _, [], h => by simp at h
  | x :: as, p :: ls, h => by
    obtain ⟨h1, h2⟩ := zip_any (as := as) (ls := ls) (by simpa using h)
    exact ⟨by rw [List.zip_cons_cons, List.map_cons, ← h1], by rw [List.zip_cons_cons, List.map_cons, ← h2]⟩
theorem paired_zipA {β : Type} {F : Addr → β → Prop} : ∀ {as : List Addr} {ls : List β}, Paired F as ls → ∀ z ∈ as.zip ls, F z.1 z.2
  | _, _, .nil, z, h => by simp at h
  | _, _, .cons r t, z, h => by
    rw [List.zip_cons_cons] at h
    rcases List.mem_cons.mp h with rfl | h
    · exact r
    · exact paired_zipA t z h
theorem paired_of_zipA {β : Type} {F : Addr → β → Prop} : ∀ {zs : List (Addr × β)}, (∀ z ∈ zs, F z.1 z.2) → Paired F (zs.map (·.1)) (zs.map (·.2))
  | [], _ => .nil
  | z :: zs, h => .cons (h z List.mem_cons_self) (paired_of_zipA fun y hy => h y (List.mem_cons_of_mem _ hy))
/-- sorted of a list of matrices -/
theorem er_sortedM {Ms : List Mat} {R : R3} (h : Er te σ H R) (hR : ∀ G1 G2 v, R G1 G2 v → ∃ b, v = .ref b ∧ LL3 K G2 b Ms) (hl : Ms.length ≤ 10000) : Er (tCB (rSortedD K) (tCons te tNil)) σ H (fun H1 H2 v => ∃ p, v = .ref p ∧ H1 p = none ∧ LL3 K H2 p (sortMat Ms)) := fun H1 e Q q =>
  h H1 e _ fun v H2 e2 hv => by
    obtain ⟨b, rfl, as, h1, h2⟩ := hR H1 H2 v hv
    obtain ⟨z1, z2⟩ := zip_any h2.length
    have hz := paired_zipA h2
    generalize as.zip Ms = zs at *
    subst z1; subst z2
    let f : Addr × Mat → V × PyData := fun z => (V.ref z.1, PySem.W.Datum.toD z.2)
    have e1 : (zs.map f).map (·.1) = (zs.map (·.1)).map V.ref := by rw [List.map_map, List.map_map]; rfl
    have e3 : (zs.map f).map (·.2) = (zs.map (·.2)).map PySem.W.Datum.toD := by rw [List.map_map, List.map_map]; rfl
    refine ⟨b, zs.map f, rfl, by rw [e1]; exact h1, by rw [e1, e3]; exact dpAll_Ms h2, ?_, ?_, by simpa using Nat.le_trans hl (by decide), fun b hb => ?_, fun p hp => ?_⟩
    · rw [e3]
      exact PySem.W.AllAlike.of fun a b => PySem.W.DatumOrd.alike a b
    · rw [e3]
      exact PySem.W.Sortable.others fun b => ⟨fun c => (by cases c), fun xs c => (by cases c)⟩
    · obtain ⟨z, _, rfl⟩ := List.mem_map.mp hb
      exact Nat.le_trans (PySem.W.Datum.depth_le z.2) (by decide)
    · have hle : ∀ y z : Addr × Mat, leM y.2 z.2 = PySem.W.dataLe false (fun b : V × PyData => b.2) (f y) (f z) := fun y z => by
        rw [PySem.W.dataLe_eq]
        show (!ltM z.2 y.2) = (!PySem.W.dataLt (PySem.W.Datum.toD z.2) (PySem.W.Datum.toD y.2))
        rw [PySem.W.DatumOrd.lt_eq]
        rfl
      have hm : (zs.map f).mergeSort (PySem.W.dataLe false (·.2)) = (zs.mergeSort fun y z => leM y.2 z.2).map f := (List.map_mergeSort fun y _ z _ => hle y z).symm
      have hs : sortMat (zs.map (·.2)) = (zs.mergeSort fun y z => leM y.2 z.2).map (·.2) := by
        unfold sortMat
        exact (List.map_mergeSort (f := fun (z : Addr × Mat) => z.2) (r := fun (y z : Addr × Mat) => leM y.2 z.2) (s := leM) (l := zs) fun y _ z _ => rfl).symm
      refine q _ _ (e2.trans (Ex.new hp)) ⟨p, rfl, fresh_back e2 hp, (zs.mergeSort fun y z => leM y.2 z.2).map (·.1), sq_of (by rw [upd_same, hm, List.map_map, List.map_map]; rfl), ?_⟩
      rw [hs]
      exact paired_of_zipA fun z hz' => (hz z (List.mem_mergeSort.mp hz')).mono (Ex.new hp)
end
section
variable {P : Program} {w : World} {K : Frag} {mg : Str → Option Value} {base : Heap} {k : Nat}
end
end AT

/-! ## what turns lead to, shut: the same from each of the forms -/
namespace AT
open PySem PySem.Spec PyProof.Rows L2 Evl
/-- forms that turns lead to -/
inductive Rch (n : Nat) (f : Fun2) : Fun2 → Prop
  | base : Rch n f f
  | step {g : Fun2} {b : Nat} : Rch n f g → b < n → Rch n f (turnF g b)
theorem Rch.skew {n : Nat} {f g : Fun2} (hs : Skew n f) (h : Rch n f g) : Skew n g := by
  induction h with
  | base => exact hs
  | step _ hb ih => exact turnF_skew ih hb
theorem Rch.trans {n : Nat} {f g h : Fun2} (h1 : Rch n f g) (h2 : Rch n g h) : Rch n f h := by
  induction h2 with
  | base => exact h1
  | step _ hb ih => exact ih.step hb
theorem least_fm {n : Nat} {f g : Fun2} (h : Fm n f = Fm n g) : leastM n f = leastM n g := leastM_ext (fm_inj h).2
theorem fm_turn {n b : Nat} {f g : Fun2} (hb : b < n) (h : Fm n f = Fm n g) : Fm n (turnF f b) = Fm n (turnF g b) := turnF_ext hb (fm_inj h).2
theorem least_turn_ren {n b : Nat} {f : Fun2} {ps : List Nat} (h : Names n ps) (hb : b < n) : leastM n (turnF (renF f ps) (ps.getD b 0)) = leastM n (turnF f b) := (least_fm (turn_ren h hb)).trans (least_ren h)
theorem same_turn {n b : Nat} {g h : Fun2} (e : leastM n g = leastM n h) (hb : b < n) : ∃ c, c < n ∧ leastM n (turnF g b) = leastM n (turnF h c) := by
  obtain ⟨ps, hp, e1⟩ := least_mem n g
  obtain ⟨qs, hq, e2⟩ := least_mem n h
  have e3 : Fm n (renF g ps) = Fm n (renF h qs) := e1.symm.trans (e.trans e2)
  have hx := names_getD hp hb
  refine ⟨qs.idxOf (ps.getD b 0), hq.ix hx.1, ?_⟩
  rw [← least_turn_ren hp hb, least_fm (fm_turn hx.1 e3)]
  have := least_turn_ren (f := h) hq (hq.ix hx.1)
  rw [names_at_ix hq hx.1] at this
  exact this
/-- the names that turns lead to -/
def NR (n : Nat) (f : Fun2) (M : Mat) : Prop := ∃ g, Rch n f g ∧ leastM n g = M
theorem NR.same {n : Nat} {f h : Fun2} {M : Mat} (e : leastM n f = leastM n h) (x : NR n f M) : NR n h M := by
  obtain ⟨g, hr, rfl⟩ := x
  have : ∃ g', Rch n h g' ∧ leastM n g' = leastM n g := by
    induction hr with
    | base => exact ⟨h, .base, e.symm⟩
    | step _ hb ih =>
      obtain ⟨g', h1, h2⟩ := ih
      obtain ⟨c, hc, h3⟩ := same_turn h2.symm hb
      exact ⟨_, h1.step hc, h3.symm⟩
  exact this
theorem NR.trans {n : Nat} {f g : Fun2} {M : Mat} (h1 : NR n f (leastM n g)) (h2 : NR n g M) : NR n f M := by
  obtain ⟨g', hr, e⟩ := h1
  obtain ⟨h, hh, e2⟩ := h2.same e.symm
  exact ⟨h, hr.trans hh, e2⟩
theorem NR.back {n : Nat} {f g : Fun2} (h : Rch n f g) : NR n g (leastM n f) := by
  induction h with
  | base => exact ⟨f, .base, rfl⟩
  | @step g b _ hb ih => exact NR.trans (g := g) ⟨turnF (turnF g b) b, Rch.base.step hb, least_fm (turnF_twice hb)⟩ ih
theorem NR.symm {n : Nat} {f g : Fun2} (h : NR n f (leastM n g)) : NR n g (leastM n f) := by
  obtain ⟨g', hr, e⟩ := h
  exact (NR.back hr).same e
/-! ### the list gone through -/
def Shut (n i : Nat) (S : List WE) : Prop := S.length ≤ 20 → ∀ j s, j < i → S[j]? = some s → ∀ b, b < n → nmE n (addE s b) ∈ S.map (nmE n)
theorem pre_names {n : Nat} {S S' : List WE} (h : S <+: S') {M : Mat} (hm : M ∈ S.map (nmE n)) : M ∈ S'.map (nmE n) := by
  obtain ⟨t, rfl⟩ := h
  rw [List.map_append]
  exact List.mem_append_left _ hm
theorem fold_shut {n : Nat} {e : WE} : ∀ (l : List Nat) {S : List WE}, (l.foldl (stepB n e) S).length ≤ 20 → ∀ b, b ∈ l → nmE n (addE e b) ∈ (l.foldl (stepB n e) S).map (nmE n)
  | c :: l, S, hl, b, hb => by
    rcases List.mem_cons.mp hb with rfl | hb
    · refine pre_names (fold_pre l (stepB n e S b)) ?_
      have hS : S.length ≤ 20 := Nat.le_trans (stepB_pre.trans (fold_pre l _)).length_le hl
      unfold stepB
      by_cases hn : isNew n S (addE e b) = true
      · rw [if_pos ⟨hn, hS⟩, List.map_append]
        exact List.mem_append_right _ (by simp)
      · rw [if_neg fun z => hn z.1]
        unfold isNew at hn
        simpa using hn
    · exact fold_shut l hl b hb
theorem runW_shut {n : Nat} : ∀ (fu i : Nat) (S : List WE), fu + i = 21 → Shut n i S → Shut n (runW n fu i S).length (runW n fu i S)
  | 0, i, S, hi, h => fun h20 j s hj => h h20 j s (by show j < i; have : j < S.length := hj; have : S.length ≤ 20 := h20; omega)
  | fu + 1, i, S, hi, h => by
    unfold runW
    split
    · rename_i c
      refine runW_shut fu (i + 1) _ (by omega) fun h20 j s hj hs b hb => ?_
      have hpre : S <+: stepA n i S := fold_pre _ _
      by_cases hji : j = i
      · subst hji
        have hsD : S.getD j we0 = s := by
          have := pre_getD hpre c.1
          rw [List.getD_eq_getElem?_getD, hs] at this
          exact this.symm
        have := fold_shut (n := n) (e := S.getD j we0) (List.range n) (S := S) h20 b (List.mem_range.mpr hb)
        rw [hsD] at this
        unfold stepA
        rw [hsD]
        exact this
      · obtain ⟨t, ht⟩ := hpre
        have hjl : j < S.length := by omega
        rw [← ht, List.getElem?_append_left hjl] at hs
        exact pre_names ⟨t, ht⟩ (h c.2 j s (by omega) hs b hb)
    · rename_i c
      exact fun h20 j s hj => h h20 j s (by omega)
theorem ways_shut {n : Nat} {f : Fun2} (h : (waysL n f).length ≤ 20) {s : WE} (hs : s ∈ waysL n f) {b : Nat} (hb : b < n) : nmE n (addE s b) ∈ (waysL n f).map (nmE n) := by
  obtain ⟨j, hj, e⟩ := List.getElem_of_mem hs
  exact runW_shut 21 0 _ rfl (fun _ j s hj => absurd hj (Nat.not_lt_zero _)) h j s hj (by rw [← e]; exact List.getElem?_eq_getElem hj) b hb
theorem ways_all {n : Nat} {f : Fun2} (P : WE → Prop) (h0 : P ([], f)) (hS : ∀ s b, P s → b < n → P (addE s b)) : ∀ s, s ∈ waysL n f → P s := by
  have hB : ∀ (S : List WE) (s : WE) (b : Nat), (∀ t, t ∈ S → P t) → P s → b < n → ∀ t, t ∈ stepB n s S b → P t := fun S s b h1 h2 hb t ht => by
    unfold stepB at ht
    split at ht
    · rcases List.mem_append.mp ht with ht | ht
      · exact h1 t ht
      · rw [List.mem_singleton.mp ht]
        exact hS s b h2 hb
    · exact h1 t ht
  have hF : ∀ (l : List Nat) (S : List WE) (s : WE), (∀ b, b ∈ l → b < n) → (∀ t, t ∈ S → P t) → P s → ∀ t, t ∈ l.foldl (stepB n s) S → P t := fun l => by
    induction l with
    | nil => exact fun S s _ h _ => h
    | cons b l ih => exact fun S s hl h1 h2 => ih _ s (fun c hc => hl c (List.mem_cons_of_mem _ hc)) (hB S s b h1 h2 (hl b List.mem_cons_self)) h2
  have hR : ∀ (fu i : Nat) (S : List WE), (∀ t, t ∈ S → P t) → ∀ t, t ∈ runW n fu i S → P t := fun fu => by
    induction fu with
    | zero => exact fun _ _ h => h
    | succ fu ih =>
      intro i S h
      unfold runW
      split
      · rename_i c
        refine ih _ _ (hF _ _ _ (fun b hb => List.mem_range.mp hb) h (h _ ?_))
        rw [List.getD_eq_getElem?_getD, List.getElem?_eq_getElem c.1]
        exact List.getElem_mem c.1
      · exact h
  exact hR 21 0 _ (fun t ht => by rw [List.mem_singleton.mp ht]; exact h0)
theorem ways_rch {n : Nat} {f : Fun2} {s : WE} (hs : s ∈ waysL n f) : Rch n f s.2 := ways_all (fun s => Rch n f s.2) .base (fun _ _ h hb => h.step hb) s hs
theorem ways_pre0 (n : Nat) (f : Fun2) : ([], f) ∈ waysL n f := by
  have : ∀ (fu i : Nat) (S : List WE), ([], f) ∈ S → ([], f) ∈ runW n fu i S := fun fu => by
    induction fu with
    | zero => exact fun _ _ h => h
    | succ fu ih =>
      intro i S h
      unfold runW
      split
      · exact ih _ _ ((fold_pre _ _).subset h)
      · exact h
  exact this 21 0 _ List.mem_cons_self
/-- the names told are just the names that turns lead to -/
theorem names_iff {n : Nat} {f : Fun2} (h : (waysL n f).length ≤ 20) {M : Mat} : M ∈ (waysL n f).map (nmE n) ↔ NR n f M := by
  constructor
  · intro hm
    obtain ⟨s, hs, rfl⟩ := List.mem_map.mp hm
    exact ⟨s.2, ways_rch hs, rfl⟩
  · rintro ⟨g, hr, rfl⟩
    induction hr with
    | base => exact List.mem_map.mpr ⟨_, ways_pre0 n f, rfl⟩
    | step _ hb ih =>
      obtain ⟨s, hs, e⟩ := List.mem_map.mp ih
      obtain ⟨c, hc, e2⟩ := same_turn (h := s.2) (show leastM n _ = leastM n s.2 from e.symm) hb
      rw [e2]
      exact ways_shut h hs hc
theorem names_sub {n : Nat} {f : Fun2} {M : Mat} (hm : M ∈ (waysL n f).map (nmE n)) : NR n f M := by
  obtain ⟨s, hs, rfl⟩ := List.mem_map.mp hm
  exact ⟨s.2, ways_rch hs, rfl⟩
theorem stepB_nd {n : Nat} {e : WE} {S : List WE} {b : Nat} (h : (S.map (nmE n)).Nodup) : ((stepB n e S b).map (nmE n)).Nodup := by
  unfold stepB
  split
  · rename_i c
    have hc := c.1
    unfold isNew at hc
    rw [Bool.not_eq_true', decide_eq_false_iff_not] at hc
    rw [List.map_append, List.nodup_append]
    refine ⟨h, by simp, fun x hx y hy z => ?_⟩
    rw [List.map_singleton, List.mem_singleton] at hy
    subst z
    rw [hy] at hx
    exact hc hx
  · exact h
theorem fold_nd {n : Nat} {e : WE} : ∀ (l : List Nat) {S : List WE}, (S.map (nmE n)).Nodup → ((l.foldl (stepB n e) S).map (nmE n)).Nodup
  | [], _, h => h
  | b :: l, _, h => fold_nd l (stepB_nd h)
theorem runW_nd {n : Nat} : ∀ (fu i : Nat) {S : List WE}, (S.map (nmE n)).Nodup → ((runW n fu i S).map (nmE n)).Nodup
  | 0, _, _, h => h
  | fu + 1, i, S, h => by
    unfold runW
    split
    · exact runW_nd fu (i + 1) (fold_nd _ h)
    · exact h
theorem ways_nd (n : Nat) (f : Fun2) : ((waysL n f).map (nmE n)).Nodup := runW_nd 21 0 (by simp)
theorem nodup_sub_len {α : Type} [DecidableEq α] : ∀ {l m : List α}, l.Nodup → (∀ x, x ∈ l → x ∈ m) → l.length ≤ m.length
  | [], _, _, _ => Nat.zero_le _
  | x :: l, m, hd, hs => by
    rw [List.nodup_cons] at hd
    have hx := hs x List.mem_cons_self
    have := nodup_sub_len (m := m.erase x) hd.2 fun y hy => (List.mem_erase_of_ne (fun z => by subst z; exact hd.1 hy)).mpr (hs y (List.mem_cons_of_mem _ hy))
    rw [List.length_erase_of_mem hx] at this
    have hm : 0 < m.length := List.length_pos_of_mem hx
    simp only [List.length_cons]
    omega
/-! ### in order -/
theorem ltM_asym {M N : Mat} (h : ltM N M = true) : ltM M N = false := by
  cases h2 : ltM M N with
  | false => rfl
  | true =>
    have h3 : ltM N N = true := lin_M.tr N M N h h2
    have h4 : ltM N N = false := lin_M.irr N
    rw [h4] at h3
    cases h3
theorem ltM_tri {M N : Mat} (h1 : ltM M N = false) (h2 : ltM N M = false) : M = N := by
  by_cases e : M = N
  · exact e
  · rcases lin_M.tot M N e with h | h
    · have h : ltM M N = true := h
      rw [h1] at h; cases h
    · have h : ltM N M = true := h
      rw [h2] at h; cases h
theorem leM_total (M N : Mat) : (leM M N || leM N M) = true := by
  unfold leM
  cases h : ltM N M with
  | false => rfl
  | true => rw [ltM_asym h]; rfl
theorem sortMat_perm (Ms : List Mat) : (sortMat Ms).Perm Ms := List.mergeSort_perm _ _
theorem leM_trans {L M N : Mat} (h1 : leM L M = true) (h2 : leM M N = true) : leM L N = true := by
  unfold leM at *
  rw [Bool.not_eq_true'] at h1 h2 ⊢
  exact lin_nlt (a := L) (b := M) (c := N) lin_M h1 h2
theorem sortMat_le (Ms : List Mat) : (sortMat Ms).Pairwise fun a b => leM a b = true := List.pairwise_mergeSort (le := leM) (fun _ _ _ => leM_trans) leM_total Ms
theorem leM_anti {M N : Mat} (h1 : leM M N = true) (h2 : leM N M = true) : M = N := by
  unfold leM at *
  rw [Bool.not_eq_true'] at h1 h2
  exact ltM_tri h2 h1
theorem sortMat_eq {Ms Ns : List Mat} (h : Ms.Perm Ns) : sortMat Ms = sortMat Ns :=
  List.Perm.eq_of_pairwise (fun _ _ _ _ => leM_anti) (sortMat_le Ms) (sortMat_le Ns) ((sortMat_perm Ms).trans (h.trans (sortMat_perm Ns).symm))
/-- told of one of its forms, or of a form renamed: the same -/
theorem reach_same {n : Nat} {f g : Fun2} (h : (waysL n f).length ≤ 20) (hg : NR n f (leastM n g)) : (waysL n g).length ≤ 20 ∧ reachM n g = reachM n f := by
  have hsub : ∀ M, M ∈ (waysL n g).map (nmE n) → M ∈ (waysL n f).map (nmE n) := fun M hm => (names_iff h).mpr (hg.trans (names_sub hm))
  have hl := nodup_sub_len (ways_nd n g) hsub
  rw [List.length_map, List.length_map] at hl
  have h2 : (waysL n g).length ≤ 20 := by omega
  refine ⟨h2, sortMat_eq ?_⟩
  exact (List.perm_ext_iff_of_nodup (ways_nd n g) (ways_nd n f)).mpr fun M => ⟨hsub M, fun hm => (names_iff h2).mpr (hg.symm.trans (names_sub hm))⟩
theorem reach_mem {n : Nat} {f : Fun2} {M : Mat} : M ∈ reachM n f ↔ M ∈ (waysL n f).map (nmE n) := by unfold reachM sortMat; rw [List.mem_mergeSort]
theorem reach_nd (n : Nat) (f : Fun2) : (reachM n f).Nodup := (List.Perm.nodup_iff (sortMat_perm _)).mpr (ways_nd n f)
theorem reach_rises {n i : Nat} {f : Fun2} {M N : Mat} (h1 : (reachM n f)[i]? = some M) (h2 : (reachM n f)[i + 1]? = some N) : ltM M N = true := by
  obtain ⟨hi, e1⟩ := List.getElem?_eq_some_iff.mp h1
  obtain ⟨hj, e2⟩ := List.getElem?_eq_some_iff.mp h2
  have hle : leM M N = true := by
    have := List.pairwise_iff_getElem.mp (sortMat_le ((waysL n f).map (nmE n))) i (i + 1) hi hj (by omega)
    rw [← e1, ← e2]
    exact this
  have hne : M ≠ N := fun z => by
    rw [← e1, ← e2] at z
    have := (List.getElem_inj (reach_nd n f)).mp z
    omega
  cases hlt : ltM M N with
  | true => rfl
  | false =>
    unfold leM at hle
    rw [Bool.not_eq_true'] at hle
    exact absurd (ltM_tri hlt hle) hne
end AT

/-! ## what the row leads to: the forms of all cuts, looked at by Lean's kernel -/
namespace AT
open PySem PySem.Spec PyProof.Rows L2 Evl
def bi (b : Bool) : Int := if b = true then 1 else 0
def rowF : Fun2 := fun i j => bi (Nat.beq j (i + 1)) - bi (Nat.beq i (j + 1))
def ofM (M : Mat) : Fun2 := fun i j => (M.getD i []).getD j 0
def repL : Nat → List Mat
  | 1 => [[[0]]]
  | 2 => [[[0, -1], [1, 0]]]
  | 3 => [[[0, -1, 0], [1, 0, -1], [0, 1, 0]], [[0, -1, -1], [1, 0, 0], [1, 0, 0]], [[0, -1, 1], [1, 0, -1], [-1, 1, 0]], [[0, -1, 0], [1, 0, 1], [0, -1, 0]]]
  | 4 => [[[0, -1, 0, 0], [1, 0, -1, 0], [0, 1, 0, -1], [0, 0, 1, 0]], [[0, -1, -1, 0], [1, 0, 0, -1], [1, 0, 0, 0], [0, 1, 0, 0]], [[0, -1, -1, 1], [1, 0, 0, -1], [1, 0, 0, 0], [-1, 1, 0, 0]],
      [[0, -1, 0, 0], [1, 0, -1, 1], [0, 1, 0, -1], [0, -1, 1, 0]], [[0, -1, 0, 0], [1, 0, -1, 0], [0, 1, 0, 1], [0, 0, -1, 0]], [[0, -1, -1, 0], [1, 0, 0, 0], [1, 0, 0, 1], [0, 0, -1, 0]]]
  | _ => []
def nextL (n : Nat) (M : Mat) : List Mat := (List.range n).map fun b => leastM n (turnF (ofM M) b)
/-- each one is told by one ahead of it -/
def chainB (n : Nat) : List Mat → List Mat → Bool
  | _, [] => true
  | done, M :: r => (done.any fun N => (nextL n N).any fun M' => decide (M' = M)) && chainB n (done ++ [M]) r
def repOk (n : Nat) : Bool := ((repL n).all fun M => decide (leastM n (ofM M) = M) && (nextL n M).all fun N => decide (N ∈ repL n)) && match repL n with
  | [] => false
  | M :: r => decide (leastM n rowF = M) && chainB n [M] r
theorem rep_ok4 : (repOk 1 && repOk 2 && repOk 3 && repOk 4) = true := by decide +kernel
theorem rep_ok {n : Nat} (h1 : 1 ≤ n) (h4 : n ≤ 4) : repOk n = true := by
  have := rep_ok4
  simp only [Bool.and_eq_true] at this
  rcases (show n = 1 ∨ n = 2 ∨ n = 3 ∨ n = 4 by omega) with rfl | rfl | rfl | rfl
  · exact this.1.1.1
  · exact this.1.1.2
  · exact this.1.2
  · exact this.2
theorem rep_nd {n : Nat} (h1 : 1 ≤ n) (h4 : n ≤ 4) : (repL n).Nodup := by
  rcases (show n = 1 ∨ n = 2 ∨ n = 3 ∨ n = 4 by omega) with rfl | rfl | rfl | rfl <;> decide +kernel
theorem rep_self {n : Nat} (h1 : 1 ≤ n) (h4 : n ≤ 4) {M : Mat} (h : M ∈ repL n) : leastM n (ofM M) = M ∧ ∀ b, b < n → leastM n (turnF (ofM M) b) ∈ repL n := by
  have := rep_ok h1 h4
  unfold repOk at this
  rw [Bool.and_eq_true] at this
  have := List.all_eq_true.mp this.1 M h
  rw [Bool.and_eq_true, decide_eq_true_eq, List.all_eq_true] at this
  refine ⟨this.1, fun b hb => ?_⟩
  have := this.2 _ (List.mem_map.mpr ⟨b, List.mem_range.mpr hb, rfl⟩)
  rwa [decide_eq_true_eq] at this
theorem chain_nr {n : Nat} : ∀ (r done : List Mat), chainB n done r = true → (∀ M, M ∈ done → M ∈ repL n) → (∀ M, M ∈ r → M ∈ repL n) → (∀ M, M ∈ repL n → leastM n (ofM M) = M) → (∀ M, M ∈ done → NR n rowF M) → ∀ M, M ∈ r → NR n rowF M
  | M :: r, done, h, hd, hr, hs, hn, N, hN => by
    have h : ((done.any fun N => (nextL n N).any fun M' => decide (M' = M)) && chainB n (done ++ [M]) r) = true := h
    rw [Bool.and_eq_true] at h
    obtain ⟨h1, h2⟩ := h
    obtain ⟨D, hD, h3⟩ := List.any_eq_true.mp h1
    obtain ⟨M', hM', h4⟩ := List.any_eq_true.mp h3
    obtain ⟨b, hb, h5⟩ := List.mem_map.mp hM'
    have hM : NR n rowF M := by
      refine NR.trans (g := ofM D) (by rw [hs D (hd D hD)]; exact hn D hD) ⟨turnF (ofM D) b, Rch.base.step (List.mem_range.mp hb), ?_⟩
      rw [h5]
      exact of_decide_eq_true h4
    rcases List.mem_cons.mp hN with rfl | hN
    · exact hM
    · refine chain_nr r (done ++ [M]) h2 (fun X hX => ?_) (fun X hX => hr X (List.mem_cons_of_mem _ hX)) hs (fun X hX => ?_) N hN
      · rcases List.mem_append.mp hX with hX | hX
        · exact hd X hX
        · rw [List.mem_singleton.mp hX]; exact hr M List.mem_cons_self
      · rcases List.mem_append.mp hX with hX | hX
        · exact hn X hX
        · rw [List.mem_singleton.mp hX]; exact hM
theorem rep_iff {n : Nat} (h1 : 1 ≤ n) (h4 : n ≤ 4) {M : Mat} : NR n rowF M ↔ M ∈ repL n := by
  have hok := rep_ok h1 h4
  unfold repOk at hok
  rw [Bool.and_eq_true] at hok
  have h0 : leastM n rowF ∈ repL n ∧ ∀ M, M ∈ repL n → NR n rowF M := by
    cases hr : repL n with
    | nil => rw [hr] at hok; cases hok.2
    | cons M r =>
      have h2 := hok.2
      rw [hr] at h2
      have h2 : (decide (leastM n rowF = M) && chainB n [M] r) = true := h2
      rw [Bool.and_eq_true, decide_eq_true_eq] at h2
      have hM : NR n rowF M := ⟨rowF, .base, h2.1⟩
      refine ⟨by rw [h2.1]; exact List.mem_cons_self, fun N hN => ?_⟩
      rcases List.mem_cons.mp hN with rfl | hN
      · exact hM
      · exact chain_nr r [M] h2.2 (fun X hX => by rw [List.mem_singleton.mp hX, hr]; exact List.mem_cons_self) (fun X hX => by rw [hr]; exact List.mem_cons_of_mem _ hX) (fun X hX => (rep_self h1 h4 hX).1) (fun X hX => by rw [List.mem_singleton.mp hX]; exact hM) N hN
  refine ⟨fun h => ?_, h0.2 M⟩
  obtain ⟨g, hr, rfl⟩ := h
  induction hr with
  | base => exact h0.1
  | step _ hb ih =>
    obtain ⟨s1, s2⟩ := rep_self h1 h4 ih
    obtain ⟨c, hc, e⟩ := same_turn s1.symm hb
    rw [e]
    exact s2 c hc
theorem row_len {n : Nat} (h1 : 1 ≤ n) (h4 : n ≤ 4) : (waysL n rowF).length ≤ 20 := by
  have := nodup_sub_len (ways_nd n rowF) fun M hM => (rep_iff h1 h4).mp (names_sub hM)
  rw [List.length_map] at this
  have h2 : (repL n).length ≤ 6 := by
    rcases (show n = 1 ∨ n = 2 ∨ n = 3 ∨ n = 4 by omega) with rfl | rfl | rfl | rfl <;> decide
  omega
theorem row_names {n : Nat} (h1 : 1 ≤ n) (h4 : n ≤ 4) {M : Mat} : M ∈ (waysL n rowF).map (nmE n) ↔ M ∈ repL n := (names_iff (row_len h1 h4)).trans (rep_iff h1 h4)
theorem row_reach {n : Nat} (h1 : 1 ≤ n) (h4 : n ≤ 4) : reachM n rowF = sortMat (repL n) := sortMat_eq ((List.perm_ext_iff_of_nodup (ways_nd n rowF) (rep_nd h1 h4)).mpr fun _ => row_names h1 h4)
/-! ### all cuts -/
def frS (N : Nat) (s : List NL) : Fun2 := fun x y => frmN N s (s.getD x (0, 0)) (s.getD y (0, 0))
def cutRep (N : Nat) (s : List NL) : Bool := !Nat.ble N 7 || decide (leastM (N - 3) (frS N s) ∈ repL (N - 3))
theorem cutRep_all (N : Nat) (h1 : 4 ≤ N) (h2 : N ≤ 9) : chk (cutRep N) (linesN N) [] (N - 3) = true := by
  rcases (show N = 4 ∨ N = 5 ∨ N = 6 ∨ N = 7 ∨ N = 8 ∨ N = 9 by omega) with rfl | rfl | rfl | rfl | rfl | rfl <;> decide +kernel
end AT
namespace AT
open PySem PySem.Spec PyProof.Rows L2 Evl
theorem pw_ndS {s : List NL} (h : s.Pairwise ltN) : s.Nodup := List.Pairwise.imp (S := fun a b => a ≠ b) (fun {a b} h e => by subst e; exact ltN_irr h) h
theorem form_frS {N : Nat} {s : List NL} (hnd : s.Nodup) (hs : ∀ p, p ∈ s → p.1 < p.2 ∧ p.2 < N) {i j : Nat} (hi : i < s.length) (hj : j < s.length) : formF N (s.map toLn) i j = frS N s i j := by
  rw [form_arrow hnd hs hi hj]
  unfold frS
  rw [List.getD_eq_getElem?_getD, List.getD_eq_getElem?_getD, List.getElem?_eq_getElem hi, List.getElem?_eq_getElem hj]
  rfl
theorem IsCut.sorted {N : Nat} {ls : List Ln} (h : IsCut (N : Int) ls) : ∃ s : List NL, ls = s.map toLn ∧ 4 ≤ N ∧ N ≤ 9 ∧ s.length = N - 3 ∧ s.Nodup ∧ (∀ p, p ∈ s → p.1 < p.2 ∧ p.2 < N) ∧ s.Sublist (linesN N) ∧ s.Pairwise (fun q p => crN q p = false) := by
  obtain ⟨n', s, e1, e2, e3, e4, e5, e6, e7, e8⟩ := h.nat
  have : n' = N := by omega
  subst this
  exact ⟨s, e4, e2, e3, e5, pw_ndS e8, fun p hp => by
    have := linesN_mem.mp (e6.subset hp)
    omega, e6, e7⟩
theorem form_okS {N : Nat} {ls : List Ln} (h : IsCut (N : Int) ls) : FormOf ls.length (formF N ls) := by
  obtain ⟨s, rfl, h4, h9, hl, hnd, hs, _⟩ := h.sorted
  rw [List.length_map] at *
  refine ⟨by omega, by omega, fun i j hi hj => ?_⟩
  rw [form_frS hnd hs hi hj, form_frS hnd hs hj hi]
  unfold frS frmN b2i
  refine ⟨by omega, ?_, ?_⟩ <;> split <;> split <;> omega
theorem cut_len {n : Nat} {ls : List Ln} (h : IsCut ((n + 3 : Nat) : Int) ls) : ls.length = n := by
  have := h.2.2.1
  omega
theorem cut_rep {n : Nat} {ls : List Ln} (h4 : n ≤ 4) (h : IsCut ((n + 3 : Nat) : Int) ls) : leastM n (formF (n + 3) ls) ∈ repL n := by
  have hln := cut_len h
  obtain ⟨s, rfl, g4, g9, hl, hnd, hs, hsub, hcr⟩ := h.sorted
  have hc := chk_all (cutRep_all (n + 3) g4 g9) hsub hl (fun q hq => absurd hq (by simp)) hcr
  have hc : cutRep (n + 3) s = true := hc
  unfold cutRep at hc
  have hb : Nat.ble (n + 3) 7 = true := Nat.ble_eq.mpr (by omega)
  rw [hb, Bool.not_true, Bool.false_or, decide_eq_true_eq] at hc
  have e : n + 3 - 3 = n := by omega
  rw [e] at hc
  have : leastM n (formF (n + 3) (s.map toLn)) = leastM n (frS (n + 3) s) := leastM_ext fun i j hi hj => form_frS hnd hs (by omega) (by omega)
  rw [this]
  exact hc
/-! ### all cuts, made one line after the other -/
def allStep (w : Nat) (found : List (List Ln)) (l : Ln) : List (List Ln) := found ++ ((found.filter fun s => decide (s.length < w) && decide ((s.filter fun o => crossB o l).length = 0)).map fun s => s ++ [l])
def allC (ls : List Ln) (w : Nat) : List (List Ln) := (ls.foldl (allStep w) [[]]).filter fun s => decide (s.length = w)
def allStepN (w : Nat) (found : List (List NL)) (l : NL) : List (List NL) := found ++ ((found.filter fun s => Nat.blt s.length w && s.all fun o => !crN o l).map fun s => s ++ [l])
def allN (ls : List NL) (w : Nat) : List (List NL) := (ls.foldl (allStepN w) [[]]).filter fun s => Nat.beq s.length w
theorem allStep_nat (w : Nat) (found : List (List NL)) (l : NL) : allStep w (found.map (List.map toLn)) (toLn l) = (allStepN w found l).map (List.map toLn) := by
  unfold allStep allStepN
  rw [List.map_append, List.filter_map, List.map_map, List.map_map]
  congr 1
  have : ((fun s => decide (s.length < w) && decide ((s.filter fun o => crossB o (toLn l)).length = 0)) ∘ List.map toLn) = fun s : List NL => Nat.blt s.length w && s.all fun o => !crN o l := by
    funext s
    show (decide ((s.map toLn).length < w) && decide (((s.map toLn).filter fun o => crossB o (toLn l)).length = 0)) = _
    rw [Bool.eq_iff_iff]
    simp only [List.length_map, Bool.and_eq_true, decide_eq_true_eq, Nat.blt_eq, List.length_eq_zero_iff, List.filter_eq_nil_iff, List.mem_map, forall_exists_index, and_imp, forall_apply_eq_imp_iff₂, crossB_nat, List.all_eq_true, Bool.not_eq_true', Bool.not_eq_true]
  rw [this]
  refine List.map_congr_left fun s _ => ?_
  show s.map toLn ++ [toLn l] = (s ++ [l]).map toLn
  rw [List.map_append]
  rfl
theorem allC_nat (ls : List NL) (w : Nat) : allC (ls.map toLn) w = (allN ls w).map (List.map toLn) := by
  have key : ∀ (ls : List NL) (found : List (List NL)), (ls.map toLn).foldl (allStep w) (found.map (List.map toLn)) = (ls.foldl (allStepN w) found).map (List.map toLn) := fun ls => by
    induction ls with
    | nil => exact fun _ => rfl
    | cons l ls ih =>
      intro found
      rw [List.map_cons, List.foldl_cons, List.foldl_cons, allStep_nat, ih]
  unfold allC allN
  have := key ls [[]]
  rw [show ([[]] : List (List NL)).map (List.map toLn) = [[]] from rfl] at this
  rw [this, List.filter_map]
  congr 1
  refine List.filter_congr fun s _ => ?_
  show decide ((s.map toLn).length = w) = _
  rw [List.length_map, Bool.eq_iff_iff, decide_eq_true_eq, Nat.beq_eq]
def allOk (n : Nat) : Bool := (allN (linesN (n + 3)) n).all (cutN (n + 3)) && (repL n).all fun M => (allN (linesN (n + 3)) n).any fun s => decide (leastM n (frS (n + 3) s) = M)
theorem all_ok4 : (allOk 1 && allOk 2 && allOk 3 && allOk 4) = true := by decide +kernel
theorem all_ok {n : Nat} (h1 : 1 ≤ n) (h4 : n ≤ 4) : allOk n = true := by
  have := all_ok4
  simp only [Bool.and_eq_true] at this
  rcases (show n = 1 ∨ n = 2 ∨ n = 3 ∨ n = 4 by omega) with rfl | rfl | rfl | rfl
  · exact this.1.1.1
  · exact this.1.1.2
  · exact this.1.2
  · exact this.2
theorem all_cut {n : Nat} (h1 : 1 ≤ n) (h4 : n ≤ 4) {c : List Ln} (h : c ∈ allC ((linesN (n + 3)).map toLn) n) : IsCut ((n + 3 : Nat) : Int) c := by
  have hok := all_ok h1 h4
  unfold allOk at hok
  rw [Bool.and_eq_true] at hok
  rw [allC_nat] at h
  obtain ⟨s, hs, rfl⟩ := List.mem_map.mp h
  exact cutN_is (by omega) (by omega) (List.all_eq_true.mp hok.1 s hs)
theorem all_rep {n : Nat} (h1 : 1 ≤ n) (h4 : n ≤ 4) {M : Mat} (h : M ∈ repL n) : ∃ c, c ∈ allC ((linesN (n + 3)).map toLn) n ∧ leastM n (formF (n + 3) c) = M := by
  have hok := all_ok h1 h4
  unfold allOk at hok
  rw [Bool.and_eq_true] at hok
  obtain ⟨s, hs, e⟩ := List.any_eq_true.mp (List.all_eq_true.mp hok.2 M h)
  rw [decide_eq_true_eq] at e
  have hm : s.map toLn ∈ allC ((linesN (n + 3)).map toLn) n := by rw [allC_nat]; exact List.mem_map.mpr ⟨s, hs, rfl⟩
  refine ⟨_, hm, ?_⟩
  have hC := all_cut h1 h4 hm
  have hln := cut_len hC
  have hcut := List.all_eq_true.mp hok.1 s hs
  unfold cutN at hcut
  simp only [Bool.and_eq_true] at hcut
  have hsrt := sortedN_pw hcut.2.2.1
  rw [List.length_map] at hln
  rw [← e]
  refine leastM_ext fun i j hi hj => form_frS (pw_ndS hsrt) (fun p hp => ?_) (by omega) (by omega)
  have := List.all_eq_true.mp hcut.2.1 p hp
  simp only [Bool.and_eq_true, Nat.blt_eq] at this
  omega
def linesB (c : Nat) : List NL := (List.range c).flatMap fun b => ((List.range b).filter fun a : Nat => lineB (c : Int) ((a : Int), (b : Int))).map fun a => (a, b)
theorem linesB_perm {c : Nat} (h1 : 4 ≤ c) (h2 : c ≤ 7) : (linesB c).Perm (linesN c) := by
  rcases (show c = 4 ∨ c = 5 ∨ c = 6 ∨ c = 7 by omega) with rfl | rfl | rfl | rfl <;> decide +kernel
theorem linesB_sort {c : Nat} (h1 : 4 ≤ c) (h2 : c ≤ 7) : sortP ((linesB c).map toLn) = (linesN c).map toLn := by
  refine sortP_eq ((linesB_perm h1 h2).map toLn) ?_
  rw [List.pairwise_map]
  exact List.Pairwise.imp (fun {p q} h => leP_of (ltP_toLn.mpr h)) (linesN_sorted h1 (by omega))
theorem linesN_len {c : Nat} (h1 : 4 ≤ c) (h2 : c ≤ 7) : (linesN c).length ≤ 14 := by
  rcases (show c = 4 ∨ c = 5 ∨ c = 6 ∨ c = 7 by omega) with rfl | rfl | rfl | rfl <;> decide +kernel
/-! ### the way led along; alike -/
theorem lead_of {n : Nat} {f g : Fun2} (h : leastM n f = leastM n g) : ∃ ps, Names n ps ∧ Lead n f g ps := by
  obtain ⟨ps, hp, e1⟩ := least_mem n f
  obtain ⟨qs, hq, e2⟩ := least_mem n g
  have e := (fm_inj (e1.symm.trans (h.trans e2))).2
  refine ⟨thenN n ps (invN n qs), thenN_names hp (invN_names hq), fun i j hi hj => ?_⟩
  rw [thenN_getD hi, thenN_getD hj]
  have a := names_getD hp hi
  have b := names_getD hp hj
  rw [lead_inv (f := g) (ps := qs) _ _ a.1 b.1, ← e _ _ a.1 b.1, lead_self hp i j hi hj]
theorem lead_form {n : Nat} {f g : Fun2} {ps : List Nat} (hg : FormOf n g) (hp : Names n ps) (h : Lead n f g ps) : FormOf n f := ⟨hg.1, hg.2.1, fun i j hi hj => by
  rw [← h i j hi hj, ← h j i hj hi]
  exact hg.2.2 _ _ (names_getD hp hi).1 (names_getD hp hj).1⟩
theorem fold_bitsS {n i : Nat} {e : WE} : ∀ (l : List Nat) {S : List WE}, (∀ b, b ∈ l → b < n) → S[i]? = some e → BitsS n S → BitsS n (l.foldl (stepB n e) S)
  | [], _, _, _, h => h
  | b :: l, S, hl, hs, h => fold_bitsS l (fun c hc => hl c (List.mem_cons_of_mem _ hc)) (by
      obtain ⟨t, ht⟩ := stepB_pre (n := n) (e := e) (S := S) (b := b)
      rw [← ht, List.getElem?_append_left (List.getElem?_eq_some_iff.mp hs).1]
      exact hs) (bits_step h hs (hl b List.mem_cons_self))
theorem runW_bits {n : Nat} : ∀ (fu i : Nat) {S : List WE}, BitsS n S → S.length ≤ 21 → BitsS n (runW n fu i S) ∧ (runW n fu i S).length ≤ 21
  | 0, _, _, h, hl => ⟨h, hl⟩
  | fu + 1, i, S, h, hl => by
    unfold runW
    split
    · rename_i c
      refine runW_bits fu (i + 1) ?_ (fold_len _ hl)
      have hs : S[i]? = some (S.getD i we0) := by rw [List.getD_eq_getElem?_getD, List.getElem?_eq_getElem c.1]; rfl
      exact fold_bitsS _ (fun b hb => List.mem_range.mp hb) hs h
    · exact ⟨h, hl⟩
theorem ways_short {n : Nat} {f : Fun2} (hf : FormOf n f) {s : WE} (hs : s ∈ waysL n f) : s.1.length ≤ 20 := by
  obtain ⟨h1, h2⟩ := runW_bits (n := n) 21 0 (bits_form hf) (by simp)
  obtain ⟨i, hi, e⟩ := List.getElem_of_mem hs
  have h3 := (h1 i s (by rw [← e]; exact List.getElem?_eq_getElem hi)).2
  have h4 : (waysL n f).length ≤ 21 := h2
  omega
theorem ways_path {n : Nat} {f : Fun2} {s : WE} (hs : s ∈ waysL n f) : s.2 = s.1.foldl turnF f ∧ ∀ b, b ∈ s.1 → b < n :=
  ways_all (fun s => s.2 = s.1.foldl turnF f ∧ ∀ b, b ∈ s.1 → b < n) ⟨rfl, fun b hb => by cases hb⟩ (fun s b h hb => by
    refine ⟨?_, fun c hc => ?_⟩
    · show turnF s.2 b = (s.1 ++ [b]).foldl turnF f
      rw [List.foldl_append, ← h.1]
      rfl
    · have hc : c ∈ s.1 ++ [b] := hc
      rcases List.mem_append.mp hc with hc | hc
      · exact h.2 c hc
      · rw [List.mem_singleton.mp hc]; exact hb) s hs
theorem path_bits {n : Nat} {f : Fun2} (hf : FormOf n f) {bs : List Nat} (hb : ∀ b, b ∈ bs → b < n) : ∀ i, i ≤ bs.length → BitsE (bI i) n ((bs.take i).foldl turnF f)
  | 0, _ => by
    have h := hf.bits.2.2
    exact h
  | i + 1, hi => by
    have ih := path_bits hf hb i (by omega)
    rw [List.take_add_one, List.getElem?_eq_getElem (show i < bs.length by omega), bI_succ]
    show BitsE _ n ((bs.take i ++ [bs[i]]).foldl turnF f)
    rw [List.foldl_append]
    exact bits_turn ih (hb _ (List.getElem_mem _)) (bI_pos i)
theorem row_form {n : Nat} (h1 : 1 ≤ n) (h6 : n ≤ 6) : FormOf n rowF := ⟨h1, h6, fun i j _ _ => by
  unfold rowF bi
  refine ⟨by omega, ?_, ?_⟩ <;> split <;> split <;> omega⟩
/-- a way from the row to a form whose least name is told -/
theorem row_way {n : Nat} (h1 : 1 ≤ n) (h4 : n ≤ 4) {g : Fun2} (hg : leastM n g ∈ repL n) : ∃ s, wayTo n rowF (leastM n g) = some s ∧ s ∈ waysL n rowF ∧ leastM n s.2 = leastM n g := by
  obtain ⟨s, hs, e⟩ := List.mem_map.mp ((row_names h1 h4).mpr hg)
  cases hw : wayTo n rowF (leastM n g) with
  | none =>
    have := List.find?_eq_none.mp hw s hs
    exact absurd (decide_eq_true e) this
  | some t => exact ⟨t, rfl, List.mem_of_find?_eq_some hw, of_decide_eq_true (p := nmE n t = leastM n g) (List.find?_some (p := fun s => decide (nmE n s = leastM n g)) hw)⟩
end AT

/-! ## row; what row refuses -/
namespace AT
open PySem PySem.Spec PyProof.Rows L2 Evl L2H
def sp_row (K : Frag) (CB : Addr) : Sp := fun vs H Q E => ∃ b : Int, vs = [.int b] ∧ ((b < 1 ∨ 6 < b) → ∀ H', Ex H H' → E (.ref CB) none H') ∧ (∀ n : Nat, b = n → 1 ≤ n → n ≤ 6 → ∀ H' p, Ex H H' → OLLI H H' p (Fm n rowF) → Q (.ref p) H')
def sp__law_refused15 : Sp := fun vs H Q _ => ∃ b : Int, vs = [.int b] ∧ (b < 1 ∨ 6 < b) ∧ ∀ H', Ex H H' → Q (.bl true) H'
section
variable {K : Frag} {σ : St} {H : Hp} {ta te : TE}
theorem ev_int1 {b : Bool} (h : Ev ta σ H (.bl b)) : Ev (tCB (fun xs H Q => (∃ i, xs = [.int i] ∧ Q (.int i) H) ∨ ∃ k, xs = [.bl k] ∧ Q (.int (if k then 1 else 0)) H) (tCons ta tNil)) σ H (.int (bi b)) := fun H1 e Q q =>
  h H1 e _ fun H2 e2 => .inr ⟨b, rfl, q H2 e2⟩
theorem dec_int {a b : Int} : decide (V.int a = V.int b) = decide (a = b) := by
  rw [decide_eq_decide]
  exact ⟨fun h => by injection h, fun h => by rw [h]⟩
theorem spr_row {C : Addr} {n : Nat} (h1 : 1 ≤ n) (h6 : n ≤ 6) : SpR (sp_row K C) [.int (n : Int)] H (RM (Fm n rowF)) := fun H1 e1 Q q E =>
  ⟨(n : Int), rfl, fun z => by omega, fun m em g1 g6 H' p e hO => by
    have : m = n := by omega
    subst this
    exact q _ H' e ⟨p, rfl, hO⟩⟩
theorem er_row {C : Addr} {n : Nat} {E : XK} (h1 : 1 ≤ n) (h6 : n ≤ 6) (h : Ev te σ H (.int (n : Int))) : Er (tCall (sp_row K C) [] E (tCons te tNil)) σ H (RM (Fm n rowF)) := er_call mon_RM (ea_cons h ea_nil) (spr_row h1 h6)
end
section
variable {P : Program} {w : World} {K : Frag} {mg : Str → Option Value} {base : Heap} {k : Nat}
theorem ok_row (T : Txt K mg) : FnOk P w K mg base (L2.CX P w) (k + 1) T.f_row T.d_row ["boxes"] (sp_row K T.c_NoBox) := by
  refine T.F_row.okX sc_row (fun vs H Q E h => ?_) (fun cdv A outer s H vs Q E hr h => ?_)
  · obtain ⟨b, rfl, _⟩ := h
    rfl
  · obtain ⟨b, rfl, q1, q2⟩ := h
    refine ⟨_, (pss_cons (ps_if (PW.pt (pw_or (pt_cmpR op_lt (pv 0) pe_int (nomark _)) (pw_or1 (pt_cmpR op_gt (pv 0) pe_int (nomark _)))))
        (pss_one (ps_raise rfl (takes_of rfl rfl rfl rfl) (pmk_own PySem.F.excBase_ValueError T.x_NoBox.xn T.x_NoBox.g T.x_NoBox.kp (raises_own T.x_NoBox.bs T.x_NoBox.ty) rfl)))
        pss_nil)
      (pss_one (ps_ret (pe_lc (own := [("i", 1)]) rfl sc_row.nd (pi_range1 rfl T.b_range (pa_cons (pv 0) pa_nil)) (blkOk_by (own := [("i", 1)]) (N := N_row) (sc := defScope s_row) (by decide +kernel)) (fun _ _ _ _ _ => (pg_name (i := 1) sc_row.nd rfl (.inr rfl))) (fun _ _ _ _ _ => pts_nil) (fun _ _ _ _ _ => (pe_lc (own := [("j", 2)]) rfl sc_row.nd (pi_range1 rfl T.b_range (pa_cons (pv 0) pa_nil)) (blkOk_by (own := [("j", 2)]) (N := N_row) (sc := relS { kind := .function, names := [(PySem.Str.ofString ".0", PySem.NameKind.local), (PySem.Str.ofString "i", PySem.NameKind.cell), (PySem.Str.ofString "range", PySem.NameKind.globalImplicit), (PySem.Str.ofString "boxes", PySem.NameKind.free)], isGenerator := false, isCoroutine := false, more := [] } (defScope s_row)) (by decide +kernel)) (fun _ _ _ _ _ => (pg_name (i := 2) sc_row.nd rfl (.inl rfl))) (fun _ _ _ _ _ => pts_nil) (fun _ _ _ _ _ => (pe_op op_sub (pe_callTy call_int1 rfl T.b_int (by decide +kernel) (pa_cons (pe_cmpR op_eq (pv 2) (pe_op op_add (pv 1) pe_int) (nomark _)) pa_nil)) (pe_callTy call_int1 rfl T.b_int (by decide +kernel) (pa_cons (pe_cmpR op_eq (pv 1) (pe_op op_add (pv 2) pe_int) (nomark _)) pa_nil)))))))))), ?_⟩
    refine q_when (et_or (et_test (ev_op (ev_var (v := .int b) rfl) ev_c rv_I0)) fun _ => et_test (ev_op (ev_var (v := .int b) rfl) ev_c rv_I0)) (fun hb H1 e1 => ?_) (fun hb H1 e1 => ?_)
    · simp only [Bool.or_eq_true, decide_eq_true_eq] at hb
      exact q1 (by omega) H1 e1
    · simp only [Bool.or_eq_false_iff, decide_eq_false_iff_not] at hb
      obtain ⟨n, rfl⟩ : ∃ n : Nat, b = n := ⟨b.toNat, by omega⟩
      refine sr_ret (em_lcR (n := (n : Int)) (fun i => (List.range n).map (rowF i)) (ea_cons (ev_var (v := .int (n : Int)) rfl) ea_nil) (by omega) (fun _ => rfl) (fun i H3 e3 hi => er_of_evl ?_)) fun v H2 e2 ⟨p, hv, hO⟩ => ?_
      · have := el_lcR1 (n := (n : Int)) (σ := (wipe [some (V.int (n : Int)), none, none] [1]).set 1 (some (.int (i : Int)))) (H := H3) (ta := tCons (tVar 0) tNil) (j := 2) (vs := [2]) (t := tYes) (te := tOp (rI0 fun i j => .int (i - j)) (tCB (fun xs H Q => (∃ i, xs = [.int i] ∧ Q (.int i) H) ∨ ∃ k, xs = [.bl k] ∧ Q (.int (if k then 1 else 0)) H) (tCons (tOp rEq (tVar 2) (tOp (rI0 fun i j => .int (i + j)) (tVar 1) (tC (.int 1)))) tNil)) (tCB (fun xs H Q => (∃ i, xs = [.int i] ∧ Q (.int i) H) ∨ ∃ k, xs = [.bl k] ∧ Q (.int (if k then 1 else 0)) H) (tCons (tOp rEq (tVar 1) (tOp (rI0 fun i j => .int (i + j)) (tVar 2) (tC (.int 1)))) tNil)))
          (fun _ => true) (fun j => .int (rowF i j)) (ea_cons (ev_var (v := .int (n : Int)) rfl) ea_nil) (by omega) (fun _ => rfl) (fun _ _ _ _ _ _ Q q => q _ (Ex.refl _)) (fun j H4 e4 hj _ => ev_cast (ev_op (ev_int1 (ev_op (ev_var (v := .int (j : Int)) rfl) (ev_op (ev_var (v := .int (i : Int)) rfl) ev_c rv_I0) (rv_eq rfl))) (ev_int1 (ev_op (ev_var (v := .int (i : Int)) rfl) (ev_op (ev_var (v := .int (j : Int)) rfl) ev_c rv_I0) (rv_eq rfl))) rv_I0) (by
            have a1 : decide (V.int (j : Int) = V.int ((i : Int) + 1)) = Nat.beq j (i + 1) := by rw [dec_int, Bool.eq_iff_iff, decide_eq_true_eq, Nat.beq_eq]; omega
            have a2 : decide (V.int (i : Int) = V.int ((j : Int) + 1)) = Nat.beq i (j + 1) := by rw [dec_int, Bool.eq_iff_iff, decide_eq_true_eq, Nat.beq_eq]; omega
            rw [a1, a2]
            rfl))
        unfold given at this
        rw [filt_all] at this
        rw [List.map_map]
        exact this
      · subst hv
        exact q2 n rfl (by omega) (by omega) H2 p (e1.trans e2) (hO.back e1)
theorem ok__law_refused15 (T : Txt K mg) (G_row : FnOk P w K mg base (L2.CX P w) k T.f_row T.d_row ["boxes"] (sp_row K T.c_NoBox)) (G__law_which : FnE P w K mg base k T.f__law_which T.d__law_which ["e"] (sp__law_which T)) : FnOk P w K mg base CX0 (k + 1) T.f__law_refused T.d__law_refused ["boxes"] sp__law_refused15 := by
  refine T.F__law_refused.ok sc__law_refused (fun vs H Q E h => ?_) (fun cdv A outer s H vs Q E hr h => ?_)
  · obtain ⟨b, rfl, _⟩ := h
    rfl
  · obtain ⟨b, rfl, hb, q⟩ := h
    refine ⟨_, (pss_cons (ps_set (i := 1) sc__law_refused.nd rfl (.inl rfl) (pe_un un_neg pe_int))
      (pss_cons (ps_try_as (i := 2) (Wout := fun _ _ _ _ => False) rfl rfl sc__law_refused.nd rfl rfl ⟨rfl, by decide, .inl T.g_TurnError⟩ takes0
        (fun W pn xe tk _ => by exact (pss_one (ps_expr (by exact (pe_callS G_row hr rfl T.m_row T.F_row.kp T.b_row (fun σ => passAt tk σ) (by exact (pa_cons (pv 0) pa_nil)))))))
        (fun a oe cls d pn hz hf => by exact (pss_one (ps_set (i := 1) sc__law_refused.nd rfl (.inl rfl) (by exact (pe_callE (oe := oe) hz hf G__law_which ⟨hr.dp, hr.un⟩ List.mem_cons_self rfl T.m__law_which T.F__law_which.kp T.b__law_which (by exact (pa_cons (pv 2) pa_nil))))))))
      (pss_one (ps_ret (pe_cmpR op_eq (pv 1) pe_int (nomark _)))))), ?_⟩
    refine q_asg (ev_un ev_c ru_neg) fun H1 e1 => ?_
    refine ⟨.int b, rfl, b, rfl, fun _ H2 e2 => ?_, fun n hn h1 h6 => by omega⟩
    refine ⟨true, T.x_TurnError.exm T.u_NoBox_TurnError, fun _ x hx => ?_, fun z => nomatch z⟩
    refine ⟨.ref x, rfl, T.c_NoBox, 1, rfl, rfl, rfl, rfl, fun H3 e3 => ?_⟩
    exact s_ret (v := .bl true) (ev_op (ev_var rfl) ev_c (rv_eq rfl)) fun H4 e4 => q H4 ((e1.trans e2).trans (e3.trans e4))
end
end AT

/-! ## _law_all: lists of cuts -/
namespace AT
open PySem PySem.Spec PyProof.Rows L2 Evl L2H
/-- a list of pairs, an object of its own here -/
def HL (K : Frag) (H : Hp) (x : Addr) (c : List Ln) : Prop := ∃ ms : List Addr, H x = some (.lst (ms.map V.ref)) ∧ Paired (fun y p => PT K H y p) ms c
abbrev Zc2 := Addr × List Ln
/-- a new list of new lists of pairs -/
def OC (K : Frag) (H0 H : Hp) (p : Addr) (zs : List Zc2) : Prop := H0 p = none ∧ H p = some (.lst (zs.map fun z => V.ref z.1)) ∧ ∀ z, z ∈ zs → H0 z.1 = none ∧ z.1 ≠ p ∧ HL K H z.1 z.2
section
variable {K : Frag} {H H0 H1 Hb : Hp} {σ : St} {a x p so : Addr} {c : List Ln} {zs : List Zc2} {ls : List Ln} {u : Ln} {ta tb te tl : TE} {t : TT} {ta' : TA}
theorem PT.upd {l : Addr} {p : Ln} {zs : List V} {o : HO} (h : PT K H x p) (hl : H l = some (.lst zs)) : PT K (upd H l o) x p := by
  rcases h with (h | ⟨o', h⟩) | h
  · exact .inl (.inl (by rw [upd_ne (ne_of h hl (by simp))]; exact h))
  · exact .inl (.inr ⟨o', by rw [upd_ne (ne_of h hl (by simp))]; exact h⟩)
  · exact .inr h
theorem HL.mono (e : Ex H H1) (h : HL K H x c) : HL K H1 x c := by
  obtain ⟨ms, h1, h2⟩ := h
  exact ⟨ms, e _ _ h1, paired_mono h2 fun _ _ z => z.mono e⟩
theorem HL.lp (h : HL K H x c) : LP K H x c := by
  obtain ⟨ms, h1, h2⟩ := h
  exact ⟨ms, sq_of h1, h2⟩
theorem HL.upd {vs : List V} {o : HO} (h : HL K H x c) (hx : x ≠ so) (hs : H so = some (.lst vs)) : HL K (L2.upd H so o) x c := by
  obtain ⟨ms, h1, h2⟩ := h
  exact ⟨ms, by rw [upd_ne hx]; exact h1, paired_mono h2 fun _ _ z => z.upd hs⟩
theorem OC.mono (e : Ex H H1) (h : OC K H0 H p zs) : OC K H0 H1 p zs := ⟨h.1, e _ _ h.2.1, fun z hz => ⟨(h.2.2 z hz).1, (h.2.2 z hz).2.1, (h.2.2 z hz).2.2.mono e⟩⟩
theorem OC.back (e : Ex H0 H1) (h : OC K H1 H p zs) : OC K H0 H p zs := ⟨fresh_back e h.1, h.2.1, fun z hz => ⟨fresh_back e (h.2.2 z hz).1, (h.2.2 z hz).2⟩⟩
theorem OC.upd {vs : List V} {o : HO} (h : OC K H0 H p zs) (h0 : H0 so ≠ none) (hs : H so = some (.lst vs)) : OC K H0 (L2.upd H so o) p zs := by
  refine ⟨h.1, ?_, fun z hz => ?_⟩
  · rw [upd_ne (show p ≠ so from fun e => h0 (by rw [← e]; exact h.1))]
    exact h.2.1
  · obtain ⟨h1, h2, h3⟩ := h.2.2 z hz
    exact ⟨h1, h2, h3.upd (fun e => h0 (by rw [← e]; exact h1)) hs⟩
theorem OC.push (h : OC K H0 H p zs) (e0 : Ex H0 H) (e : Ex H H1) (hx : H x = none) (hc : HL K H1 x c) : OC K H0 (L2.upd H1 p (.lst ((zs.map fun z => V.ref z.1) ++ [.ref x]))) p (zs ++ [(x, c)]) := by
  have hp1 := e _ _ h.2.1
  have hxp : x ≠ p := fun z => by
    subst z
    rw [h.2.1] at hx
    cases hx
  refine ⟨h.1, by rw [upd_same, List.map_append]; rfl, fun z hz => ?_⟩
  rcases List.mem_append.mp hz with hz | hz
  · obtain ⟨h1, h2, h3⟩ := h.2.2 z hz
    exact ⟨h1, h2, (h3.mono e).upd h2 hp1⟩
  · rw [List.mem_singleton.mp hz]
    exact ⟨fresh_back e0 hx, hxp, hc.upd hxp hp1⟩
def RC2 (K : Frag) (Cs : List (List Ln)) : R3 := fun H1 H2 v => ∃ p zs, v = .ref p ∧ OC K H1 H2 p zs ∧ zs.map (·.2) = Cs
theorem mon_RC2 {Cs : List (List Ln)} : Mon (RC2 K Cs) := ⟨fun e ⟨p, zs, h1, h2, h3⟩ => ⟨p, zs, h1, h2.mono e, h3⟩, fun e ⟨p, zs, h1, h2, h3⟩ => ⟨p, zs, h1, h2.back e, h3⟩⟩
def RHL (K : Frag) (c : List Ln) : R3 := fun H1 H2 v => ∃ p, v = .ref p ∧ H1 p = none ∧ HL K H2 p c
theorem mon_RHL : Mon (RHL K c) := ⟨fun e ⟨p, h1, h2, h3⟩ => ⟨p, h1, h2, h3.mono e⟩, fun e ⟨p, h1, h2, h3⟩ => ⟨p, h1, fresh_back e h2, h3⟩⟩
/-- [[]] -/
theorem er_nilnil : Er (tLst (tCons (tLst tNil) tNil)) σ H (RC2 K [[]]) := fun H1 e Q q => by
  have h0 : EvL (tLst tNil) σ H [] := el_lst ea_nil (by decide)
  refine h0 H1 e (fun x H2 => [x].length ≤ sizeLine ∧ ∀ p, H2 p = none → Q (.ref p) (L2.upd H2 p (.lst [x]))) fun x H2 hx e2 hx2 => ⟨by show 1 ≤ sizeLine; decide, fun p hp => ?_⟩
  have ep := Ex.new (o := .lst [V.ref x]) hp
  refine q _ _ (e2.trans ep) ⟨p, [(x, [])], rfl, ⟨fresh_back e2 hp, by rw [upd_same]; rfl, fun z hz => ?_⟩, rfl⟩
  rw [List.mem_singleton.mp hz]
  exact ⟨hx, ne_of_none hx2 hp, [], ep _ _ hx2, .nil⟩
/-- some + [line] -/
theorem er_snocP (ha : Ev ta σ H (.ref a)) (hL : HL K H a c) (hb : Ev tb σ H (.ref x)) (hx : PT K H x u) (hl : c.length ≤ 1000) : Er (tOp rCat ta (tLst (tCons tb tNil))) σ H (RHL K (c ++ [u])) := fun H1 e Q q =>
  ha H1 e _ fun H2 e2 => hb H2 (e.trans e2) _ fun H3 e3 => ⟨by show 1 ≤ sizeLine; decide, fun b hb => by
    have eb := Ex.new (o := .lst [V.ref x]) hb
    obtain ⟨ms, h1, h2⟩ := hL
    have e4 := ((e.trans e2).trans e3).trans eb
    refine ⟨a, b, _, _, rfl, rfl, e4 _ _ h1, upd_same, ?_, fun p hp => ?_⟩
    · rw [List.length_map, h2.length]
      exact Nat.le_trans (m := 1001) (by show _ + 1 ≤ 1001; omega) (by decide)
    · have ep := Ex.new (o := .lst (ms.map V.ref ++ [V.ref x])) hp
      refine q _ _ (((e2.trans e3).trans eb).trans ep) ⟨p, rfl, fresh_back ((e2.trans e3).trans eb) hp, ms ++ [x], by rw [upd_same, List.map_append]; rfl, paired_append (paired_mono h2 fun _ _ z => (z.mono e4).mono ep) (.cons ((hx.mono e4).mono ep) .nil)⟩⟩
/-- found + longer -/
theorem er_catC {q' : Addr} {zs' : List Zc2} (e0 : Ex H0 H) (ha : Ev ta σ H (.ref p)) (hb : Ev tb σ H (.ref q')) (h1 : OC K H0 H p zs) (h2 : OC K H0 H q' zs') (hl : zs.length + zs'.length ≤ 40000) : Er (tOp rCat ta tb) σ H (fun _ G2 v => ∃ r, v = .ref r ∧ OC K H0 G2 r (zs ++ zs')) := fun H1 e Q q =>
  ha H1 e _ fun H2 e2 => hb H2 (e.trans e2) _ fun H3 e3 => by
    have e13 := (e.trans e2).trans e3
    refine ⟨p, q', _, _, rfl, rfl, e13 _ _ h1.2.1, e13 _ _ h2.2.1, ?_, fun r hr => ?_⟩
    · rw [List.length_map, List.length_map]
      exact Nat.le_trans hl (by decide)
    · have er := Ex.new (o := .lst ((zs.map fun z => V.ref z.1) ++ zs'.map fun z => V.ref z.1)) hr
      have key : ∀ {s : Addr} {ys : List Zc2}, OC K H0 H s ys → ∀ z, z ∈ ys → H0 z.1 = none ∧ z.1 ≠ r ∧ HL K (L2.upd H3 r (.lst ((zs.map fun z => V.ref z.1) ++ zs'.map fun z => V.ref z.1))) z.1 z.2 := fun {s ys} h z hz => by
        obtain ⟨g1, _, g3⟩ := h.2.2 z hz
        have g4 := g3.mono e13
        obtain ⟨ms, g5, _⟩ := id g4
        exact ⟨g1, ne_of_none g5 hr, g4.mono er⟩
      refine q _ _ ((e2.trans e3).trans er) ⟨r, rfl, fresh_back (e0.trans e13) hr, by rw [upd_same, List.map_append], fun z hz => ?_⟩
      rcases List.mem_append.mp hz with hz | hz
      · exact key h1 z hz
      · exact key h2 z hz
section
variable {n : Nat}
theorem er_filterP {j : Nat} {vs : List Nat} (g : Ln → Bool) (h : Ev tl σ H (.ref a)) (hL : LP K H a ls) (hl : ls.length ≤ 1000) (hw : ∀ x, wipe ((wipe σ vs).set j (some x)) vs = wipe σ vs) (hj : ∀ x, ((wipe σ vs).set j (some x))[j]? = some (some x))
    (ht : ∀ x q H1, Ex H H1 → PT K H1 x q → EvT t ((wipe σ vs).set j (some (.ref x))) H1 (g q)) : Er (tLc (iList K tl) (gName j) t (tVar j) vs) σ H (RLP K (ls.filter g)) := fun H1 e Q q => by
  obtain ⟨as, hA, hP⟩ := id hL
  obtain ⟨z1, z2⟩ := zip_of hP.length
  have hz := paired_zip hP
  generalize as.zip ls = zs at *
  subst z1; subst z2
  have hll := hl
  rw [List.length_map] at hll
  let d : Addr × Ln := (0, (0, 0))
  have hx : ∀ (i : Nat) (x : V), ((zs.map (·.1)).map V.ref)[i]? = some x → zs[i]? = some (zs.getD i d) ∧ x = .ref (zs.getD i d).1 := fun i x hx => by
    rw [List.map_map, List.getElem?_map] at hx
    cases hy : zs[i]? with
    | none => rw [hy] at hx; cases hx
    | some y =>
      rw [hy] at hx
      cases hx
      rw [List.getD_eq_getElem?_getD, hy]
      exact ⟨rfl, rfl⟩
  have hlc := el_lcL (K := K) (te := tVar j) (t := t) (fun i => g (zs.getD i d).2) (fun i => .ref (zs.getD i d).1) h hA (by rw [List.length_map, List.length_map]; omega) hw
    (fun i x G1 g1 hxi => by
      obtain ⟨c1, rfl⟩ := hx i x hxi
      exact ht _ _ G1 g1 ((hz _ (List.mem_of_getElem? c1)).mono g1))
    (fun i x G1 g1 hxi _ => by
      obtain ⟨c1, rfl⟩ := hx i x hxi
      exact ev_var (hj _))
  rw [List.length_map, List.length_map, given_filter d zs (fun z => g z.2) (fun z => .ref z.1)] at hlc
  refine hlc H1 e _ fun b1 H2 hb1 e2 hb1' => q _ H2 e2 ⟨b1, rfl, hb1, (zs.filter fun z => g z.2).map (·.1), by rw [hb1', List.map_map]; rfl, ?_⟩
  have hf : (zs.map (·.2)).filter g = (zs.filter fun z => g z.2).map (·.2) := by rw [List.filter_map]; rfl
  rw [hf]
  exact paired_of_zip fun z hz' => ((hz z (List.mem_filter.mp hz').1).mono (e.trans e2))
end
theorem ev_lenR (h : Er te σ H (RLP K ls)) : Ev (tCB (rLenS K) (tCons te tNil)) σ H (.int (ls.length : Int)) := fun H1 e Q q =>
  h H1 e _ fun v H2 e2 ⟨p, hv, hp⟩ => by
    subst hv
    obtain ⟨as, h1, h2⟩ := hp.lp
    exact ⟨p, _, rfl, .inl h1, by
      rw [List.length_map, h2.length]
      exact q H2 e2⟩
/-- [some for some in found if ..] -/
theorem er_filterC {j : Nat} {vs : List Nat} (g : List Ln → Bool) (e0 : Ex H0 H) (h : Ev tl σ H (.ref p)) (hC : OC K H0 H p zs) (hl : zs.length ≤ 40000) (hw : ∀ x, wipe ((wipe σ vs).set j (some x)) vs = wipe σ vs) (hj : ∀ x, ((wipe σ vs).set j (some x))[j]? = some (some x))
    (ht : ∀ x c H1, Ex H H1 → HL K H1 x c → EvT t ((wipe σ vs).set j (some (.ref x))) H1 (g c)) : Er (tLc (iList K tl) (gName j) t (tVar j) vs) σ H (fun _ G2 v => ∃ r zs', v = .ref r ∧ OC K H0 G2 r zs' ∧ zs'.map (·.2) = (zs.map (·.2)).filter g) := fun H1 e Q q => by
  let d : Zc2 := (0, [])
  have hx : ∀ (i : Nat) (x : V), (zs.map fun z => V.ref z.1)[i]? = some x → zs[i]? = some (zs.getD i d) ∧ x = .ref (zs.getD i d).1 := fun i x hx => by
    rw [List.getElem?_map] at hx
    cases hy : zs[i]? with
    | none => rw [hy] at hx; cases hx
    | some y =>
      rw [hy] at hx
      cases hx
      rw [List.getD_eq_getElem?_getD, hy]
      exact ⟨rfl, rfl⟩
  have hlc := el_lcL (K := K) (te := tVar j) (t := t) (fun i => g (zs.getD i d).2) (fun i => .ref (zs.getD i d).1) h (sq_of hC.2.1) (by rw [List.length_map]; omega) hw
    (fun i x G1 g1 hxi => by
      obtain ⟨c1, rfl⟩ := hx i x hxi
      exact ht _ _ G1 g1 ((hC.2.2 _ (List.mem_of_getElem? c1)).2.2.mono g1))
    (fun i x G1 g1 hxi _ => by
      obtain ⟨c1, rfl⟩ := hx i x hxi
      exact ev_var (hj _))
  rw [List.length_map, given_filter d zs (fun z => g z.2) (fun z => .ref z.1)] at hlc
  refine hlc H1 e _ fun b1 H2 hb1 e2 hb1' => q _ H2 e2 ⟨b1, zs.filter fun z => g z.2, rfl, ⟨fresh_back (e0.trans e) hb1, hb1', fun z hz => ?_⟩, ?_⟩
  · obtain ⟨g1, g2, g3⟩ := hC.2.2 z (List.mem_filter.mp hz).1
    have g4 := g3.mono e
    obtain ⟨ms, g5, _⟩ := id g4
    exact ⟨g1, ne_of_none g5 hb1, g4.mono e2⟩
  · rw [List.filter_map]
    rfl
/-- new pairs over a range -/
theorem er_lcPairs {j : Nat} {vs : List Nat} {n : Int} (f : Nat → Bool) (g : Nat → Ln) (h : EvA ta' σ H [.int n]) (hn : 0 ≤ n ∧ n ≤ 1000) (hw : ∀ x, wipe ((wipe σ vs).set j (some x)) vs = wipe σ vs)
    (ht : ∀ (i : Nat) H1, Ex H H1 → (i : Int) < n → EvT t ((wipe σ vs).set j (some (.int (i : Int)))) H1 (f i)) (he : ∀ (i : Nat) H1, Ex H H1 → (i : Int) < n → f i = true → EvU te ((wipe σ vs).set j (some (.int (i : Int)))) H1 [.int (g i).1, .int (g i).2]) :
    Er (tLc (iRng1 ta') (gName j) t te vs) σ H (RLPH (((List.range n.toNat).filter f).map g)) := fun H0 e Q q => h H0 e _ fun H1 e1 => ⟨n, rfl, by omega, by omega, fun Dl hD =>
  lc_range (lo := 0) (n := n.toNat) (fun i H' => Ex H1 H' ∧ LPH H' Dl (((List.range i).filter f).map g)) ⟨Ex.new hD, [], by rw [upd_same]; rfl, .nil⟩ (fun i H' hi p => by
    have e0 : (0 : Int) + (i : Int) = (i : Int) := Int.zero_add _
    show wipe ((wipe σ vs).set j (some (.int ((0 : Int) + (i : Int))))) vs = wipe σ vs ∧ t ((wipe σ vs).set j (some (.int ((0 : Int) + (i : Int))))) H' fun b H3 => if b = true then te ((wipe σ vs).set j (some (.int ((0 : Int) + (i : Int))))) H3 fun y H4 => ∃ acc, H4 Dl = some (.lst acc) ∧ acc.length < sizeLine ∧ Ex H1 (L2.upd H4 Dl (.lst (acc ++ [y]))) ∧ LPH (L2.upd H4 Dl (.lst (acc ++ [y]))) Dl (((List.range (i + 1)).filter f).map g) else Ex H1 H3 ∧ LPH H3 Dl (((List.range (i + 1)).filter f).map g)
    rw [e0]
    obtain ⟨p1, p2⟩ := p
    refine ⟨hw _, ht i H1 (e.trans e1) (by omega) H' p1 _ fun H3 e3 => ?_⟩
    have hr : (List.range (i + 1)).filter f = (List.range i).filter f ++ (if f i = true then [i] else []) := by
      rw [List.range_succ, List.filter_append]
      congr 1
      by_cases c : f i = true
      · rw [if_pos c]; simp [c]
      · rw [if_neg c]; simp [c]
    cases hf : f i with
    | true =>
      show te _ H3 _
      refine he i H1 (e.trans e1) (by omega) hf H3 (p1.trans e3) _ fun x H4 hx e4 hx4 => ?_
      obtain ⟨zs, h1, h2, h3⟩ := (p2.mono e3).push (p := g i)
      refine ⟨zs, e4 _ _ h1, sz_lt ?_, Ex.mut ((p1.trans e3).trans e4) hD, ?_⟩
      · rw [h2, List.length_map]
        have := List.length_filter_le f (List.range i)
        rw [List.length_range] at this
        omega
      · have := h3 H4 x e4 hx4
        rw [hr, hf, if_pos rfl, List.map_append]
        exact this
    | false =>
      show Ex H1 H3 ∧ _
      refine ⟨p1.trans e3, ?_⟩
      rw [hr, hf, if_neg (by decide), List.append_nil]
      exact p2.mono e3)
    (fun H' p => q _ H' (e1.trans p.1) ⟨Dl, rfl, fresh_back e1 hD, p.2⟩)⟩
end
def sp__law_all (K : Frag) : Sp := fun vs H Q _ => ∃ (a : Addr) (w : Nat) (ls : List Ln), vs = [.ref a, .int (w : Int)] ∧ LP K H a ls ∧ ls.length ≤ 14 ∧ w ≤ 10 ∧ ∀ H' v, Ex H H' → RC2 K (allC ls w) H H' v → Q v H'
theorem allStep_len (w : Nat) (found : List (List Ln)) (l : Ln) : (allStep w found l).length ≤ 2 * found.length := by
  unfold allStep
  rw [List.length_append, List.length_map]
  have := List.length_filter_le (fun s : List Ln => decide (s.length < w) && decide ((s.filter fun o => crossB o l).length = 0)) found
  omega
theorem all_len (w : Nat) (ls : List Ln) : ∀ i, i ≤ ls.length → ((ls.take i).foldl (allStep w) [[]]).length ≤ 2 ^ i
  | 0, _ => by simp
  | i + 1, hi => by
    have ih := all_len w ls i (by omega)
    rw [take_fold (List.getElem?_eq_getElem (show i < ls.length by omega)), Nat.pow_succ]
    have := allStep_len w ((ls.take i).foldl (allStep w) [[]]) ls[i]
    omega
theorem all_short (w : Nat) (ls : List Ln) : ∀ i, i ≤ ls.length → ∀ c, c ∈ (ls.take i).foldl (allStep w) [[]] → c.length ≤ w
  | 0, _, c, hc => by
    have : c = [] := by simpa using hc
    rw [this]
    exact Nat.zero_le _
  | i + 1, hi, c, hc => by
    have ih := all_short w ls i (by omega)
    rw [take_fold (List.getElem?_eq_getElem (show i < ls.length by omega))] at hc
    unfold allStep at hc
    rcases List.mem_append.mp hc with hc | hc
    · exact ih c hc
    · obtain ⟨s, hs, rfl⟩ := List.mem_map.mp hc
      have := (List.mem_filter.mp hs).2
      rw [Bool.and_eq_true, decide_eq_true_eq] at this
      rw [List.length_append, List.length_singleton]
      omega
section
variable {P : Program} {w : World} {K : Frag} {mg : Str → Option Value} {base : Heap} {k : Nat}
theorem ok__law_all (T : Txt K mg) (G__law_cross : FnOk P w K mg base CX0 k T.f__law_cross T.d__law_cross ["line", "other"] (sp_crossing K)) : FnOk P w K mg base CX0 (k + 1) T.f__law_all T.d__law_all ["lines", "wanted"] (sp__law_all K) := by
  refine T.F__law_all.ok sc__law_all (fun vs H Q E h => ?_) (fun cdv A outer s H vs Q E hr h => ?_)
  · obtain ⟨a, w, ls, rfl, _⟩ := h
    rfl
  · obtain ⟨a, w, ls, rfl, hL, hl14, hw10, q⟩ := h
    refine ⟨_, (pss_cons (ps_set (i := 2) sc__law_all.nd rfl (.inl rfl) (pe_lst (pa_cons (pe_lst pa_nil) pa_nil)))
      (pss_cons (ps_for PassesOwn.never rfl (pi_listK K (pv 0)) (pg_name (i := 3) sc__law_all.nd rfl (.inr rfl))
        (pss_cons (ps_set (i := 4) sc__law_all.nd rfl (.inl rfl) (pe_lst pa_nil))
      (pss_cons (ps_for PassesOwn.never rfl (pi_listK K (pv 2)) (pg_name (i := 5) sc__law_all.nd rfl (.inl rfl))
        (pss_one (ps_if (PW.pt (pw_and (pt_cmpR op_lt (pe_callB (lenK K) rfl T.b_len PySem.boot_len (pa_cons (pv 5) pa_nil)) (pv 1) (nomark _)) (pw_and1 (pt_cmpR op_eq (pe_callB (lenK K) rfl T.b_len PySem.boot_len (pa_cons (pe_lc (own := [("one", 6)]) rfl sc__law_all.nd (pi_listK K (pv 5)) (blkOk_by (own := [("one", 6)]) (N := N__law_all) (sc := defScope s__law_all) (by decide +kernel)) (fun _ _ _ _ _ => (pg_name (i := 6) sc__law_all.nd rfl (.inl rfl))) (fun _ _ _ _ _ => (pts_one (pt_val (pe_call G__law_cross hr rfl T.m__law_cross T.F__law_cross.kp T.b__law_cross .nil pass0 (pa_cons (pv 6) (pa_cons (pv 3) pa_nil)))))) (fun _ _ _ _ _ => (pv 6))) pa_nil)) pe_int (nomark _)))))
        (pss_one (ps_expr (bmK K PySem.F.plainAttrs_list PySem.F.slot_list_append PySem.F.type_list_append mt_append (pv 4) (pa_cons (pe_op op_cat (pv 5) (pe_lst (pa_cons (pv 3) pa_nil))) pa_nil))))
        pss_nil)))
      (pss_one (ps_set (i := 2) sc__law_all.nd rfl (.inl rfl) (pe_op op_cat (pv 2) (pv 4)))))))
      (pss_one (ps_ret (pe_lc (own := [("some", 5)]) rfl sc__law_all.nd (pi_listK K (pv 2)) (blkOk_by (own := [("some", 5)]) (N := N__law_all) (sc := defScope s__law_all) (by decide +kernel)) (fun _ _ _ _ _ => (pg_name (i := 5) sc__law_all.nd rfl (.inl rfl))) (fun _ _ _ _ _ => (pts_one (pt_cmpR op_eq (pe_callB (lenK K) rfl T.b_len PySem.boot_len (pa_cons (pv 5) pa_nil)) (pv 1) (nomark _)))) (fun _ _ _ _ _ => (pv 5))))))), ?_⟩
    refine qr_asg (er_nilnil (K := K)) fun v H1 e1 ⟨f0, zs0, hv, hC0, hz0⟩ => ?_
    subst hv
    obtain ⟨as, hA, hAP⟩ := id hL
    have hAl := hAP.length
    refine q_forL (xs := as.map V.ref) (ev_var (v := .ref a) rfl) (ex_l e1 hA) (fun i σ' H' => ∃ f zs x3 x4 x5, σ' = [some (.ref a), some (.int (w : Int)), some (.ref f), x3, x4, x5, none] ∧ Ex H H' ∧ OC K H H' f zs ∧ zs.map (·.2) = (ls.take i).foldl (allStep w) [[]])
      (fun H2 e2 => ⟨f0, zs0, _, _, _, rfl, e1.trans e2, hC0.mono e2, hz0⟩) (fun i σ' H' _ hP => by obtain ⟨f, zs, x3, x4, x5, rfl, e, _⟩ := hP; exact ex_l e hA) (fun i x σ' H' hx hP => ?_) (fun σ' H' hP => ?_)
    · obtain ⟨f, zs, x3, x4, x5, rfl, eH, hC, hz⟩ := hP
      rw [List.getElem?_map] at hx
      cases hax : as[i]? with
      | none => rw [hax] at hx; cases hx
      | some y =>
        rw [hax] at hx
        cases hx
        obtain ⟨l, hl, hyl⟩ := paired_getL hAP hax
        have hil := (List.getElem?_eq_some_iff.mp hl).1
        have hlen := all_len w ls i (by omega)
        rw [← hz, List.length_map] at hlen
        have h214 : 2 ^ i ≤ 2 ^ 13 := Nat.pow_le_pow_right (by decide) (by omega)
        have h13 : (2 : Nat) ^ 13 = 8192 := by decide
        have hy := hyl.mono eH
        refine q_asgL (xs := []) (el_lst ea_nil (by simp)) fun lo H2 hlo e2 hlo2 => ?_
        have hOCn : OC K H' H2 lo [] := ⟨hlo, hlo2, fun z hz => by cases hz⟩
        let g : List Ln → Bool := fun s => decide (s.length < w) && decide ((s.filter fun o => crossB o l).length = 0)
        refine q_forL (xs := zs.map fun z => V.ref z.1) (ev_var (v := .ref f) rfl) (sq_of (e2 _ _ hC.2.1)) (fun m σ' H3 => ∃ zs2 x5, σ' = [some (.ref a), some (.int (w : Int)), some (.ref f), some (.ref y), some (.ref lo), x5, none] ∧ Ex H' H3 ∧ OC K H' H3 lo zs2 ∧ zs2.map (·.2) = (((zs.map (·.2)).take m).filter g).map fun s => s ++ [l])
          (fun H3 e3 => ⟨[], _, rfl, e2.trans e3, hOCn.mono e3, rfl⟩) (fun m σ' H3 _ hP => by obtain ⟨zs2, x5, rfl, e, _⟩ := hP; exact sq_of (e _ _ hC.2.1)) (fun m x σ' H3 hx hP => ?_) (fun σ' H3 hP => ?_)
        · obtain ⟨zs2, x5, rfl, e3, hC2, hz2⟩ := hP
          rw [List.getElem?_map] at hx
          cases hzx : zs[m]? with
          | none => rw [hzx] at hx; cases hx
          | some z =>
            rw [hzx] at hx
            cases hx
            have hzm := (hC.2.2 z (List.mem_of_getElem? hzx)).2.2.mono e3
            have hml := (List.getElem?_eq_some_iff.mp hzx).1
            have htk : (zs.map (·.2)).take (m + 1) = (zs.map (·.2)).take m ++ [z.2] := by
              rw [List.take_add_one, List.getElem?_map, hzx]; rfl
            have hl2 : zs2.length ≤ m := by
              have := congrArg List.length hz2
              rw [List.length_map, List.length_map] at this
              have h2 := List.length_filter_le g ((zs.map (·.2)).take m)
              rw [List.length_take] at h2
              omega
            have hzl : z.2.length ≤ w := by
              refine all_short w ls i (by omega) z.2 ?_
              rw [← hz]
              exact List.mem_map.mpr ⟨z, List.mem_of_getElem? hzx, rfl⟩
            refine s_when (b := g z.2) (et_and (et_is (et_test (ev_op (ev_lenLP (ev_var (v := .ref z.1) rfl) hzm.lp) (ev_var (v := .int (w : Int)) rfl) rv_I0)) (by rw [decide_eq_decide]; omega)) fun _ => et_is (et_test (ev_op (ev_lenR (er_filterP (fun o => crossB o l) (ev_var (v := .ref z.1) rfl) hzm.lp (by omega) (fun _ => rfl) (fun _ => rfl) (fun x q' G1 g1 hx => et_B (ev_call (ea_cons (ev_var (v := .ref x) rfl) (ea_cons (ev_var (v := .ref y) rfl) ea_nil)) fun G2 g2 Q' q' E' => ⟨x, y, _, l, rfl, hx.mono g2, (hy.mono e3).mono (g1.trans g2), q'⟩)))) ev_c (rv_eq rfl))) (by rw [dec_int, decide_eq_decide]; omega)) (fun hb H4 e4 => ?_) (fun hb H4 e4 => ?_)
            · refine s_appE mon_RHL (vs := zs2.map fun z => V.ref z.1) (e4 _ _ hC2.2.1) (ev_var (v := .ref lo) rfl) (er_snocP (ev_var (v := .ref z.1) rfl) (hzm.mono e4) (ev_var (v := .ref y) rfl) ((hy.mono e3).mono e4) (by omega)) (by rw [List.length_map]; omega) fun v H5 e5 ⟨r, hv, hr0, hr⟩ => ?_
              subst hv
              refine ⟨zs2 ++ [(r, z.2 ++ [l])], _, rfl, Ex.mut ((e3.trans e4).trans e5) hlo, (hC2.mono e4).push (e3.trans e4) e5 hr0 hr, ?_⟩
              rw [List.map_append, hz2, htk, List.filter_append, List.map_append]
              congr 1
              simp [hb]
            · refine ⟨zs2, _, rfl, e3.trans e4, hC2.mono e4, ?_⟩
              rw [hz2, htk, List.filter_append, List.map_append]
              simp [hb]
        · obtain ⟨zs2, x5, rfl, e3, hC2, hz2⟩ := hP
          rw [List.length_map] at hz2
          have hl2 : zs2.length ≤ zs.length := by
            have := congrArg List.length hz2
            rw [List.length_map, List.length_map] at this
            have h2 := List.length_filter_le g ((zs.map (·.2)).take zs.length)
            rw [List.length_take, List.length_map] at h2
            omega
          refine sr_asg (er_catC (H0 := H) (eH.trans e3) (ev_var (v := .ref f) rfl) (ev_var (v := .ref lo) rfl) (hC.mono e3) (hC2.back eH) (by omega)) fun v H4 e4 ⟨r, hv, hr⟩ => ?_
          subst hv
          refine ⟨r, zs ++ zs2, _, _, _, rfl, (eH.trans e3).trans e4, hr, ?_⟩
          rw [take_fold hl, ← hz, List.map_append, hz2]
          rw [show (zs.map (·.2)).take zs.length = zs.map (·.2) from by rw [← List.length_map (f := (·.2)) (as := zs), List.take_length]]
          rfl
    · obtain ⟨f, zs, x3, x4, x5, rfl, eH, hC, hz⟩ := hP
      rw [List.length_map, hAl, List.take_length] at hz
      have hlen := all_len w ls ls.length (Nat.le_refl _)
      rw [List.take_length, ← hz, List.length_map] at hlen
      have h214 : 2 ^ ls.length ≤ 2 ^ 14 := Nat.pow_le_pow_right (by decide) hl14
      have h14 : (2 : Nat) ^ 14 = 16384 := by decide
      refine sr_ret (er_filterC (fun s => decide (s.length = w)) eH (ev_var (v := .ref f) rfl) hC (by omega) (fun _ => rfl) (fun _ => rfl) fun x c G1 g1 hc => et_is (et_test (ev_op (ev_lenLP (ev_var (v := .ref x) rfl) hc.lp) (ev_var (v := .int (w : Int)) rfl) (rv_eq rfl))) (by rw [dec_int, decide_eq_decide]; omega)) fun v H2 e2 ⟨r, zs', hv, hr, hz'⟩ => ?_
      subst hv
      exact q H2 _ (eH.trans e2) ⟨r, zs', rfl, hr, by rw [hz', hz]; rfl⟩
end
end AT

namespace AT
open PySem PySem.Spec PyProof.Rows L2 Evl L2H
def sp_law (K : Frag) : Sp := fun vs H Q _ => ∃ (a : Addr) (ns : List Int), vs = [.ref a] ∧ SqL K H a (ns.map V.int) ∧ ns.length ≤ 63 ∧ ∀ H', Q (.bl true) H'
/-! ### the names told of all cuts, each once -/
def ddStep (D : List Mat) (M : Mat) : List Mat := if M ∈ D then D else D ++ [M]
theorem ddStep_nd {D : List Mat} {M : Mat} (h : D.Nodup) : (ddStep D M).Nodup := by
  unfold ddStep
  split
  · exact h
  · rename_i c
    rw [List.nodup_append]
    exact ⟨h, by simp, fun x hx y hy z => by
      subst z
      rw [List.mem_singleton.mp hy] at hx
      exact c hx⟩
theorem ddStep_mem {D : List Mat} {M N : Mat} : N ∈ ddStep D M ↔ N ∈ D ∨ N = M := by
  unfold ddStep
  split
  · rename_i c
    exact ⟨.inl, fun h => by
      rcases h with h | rfl
      · exact h
      · exact c⟩
  · simp
theorem dd_nd : ∀ (l : List Mat) {D : List Mat}, D.Nodup → (l.foldl ddStep D).Nodup
  | [], _, h => h
  | _ :: l, _, h => dd_nd l (ddStep_nd h)
theorem dd_mem : ∀ (l : List Mat) {D : List Mat} {N : Mat}, N ∈ l.foldl ddStep D ↔ N ∈ D ∨ N ∈ l
  | [], _, _ => by simp
  | M :: l, D, N => by
    rw [List.foldl_cons, dd_mem l, ddStep_mem, List.mem_cons, or_assoc]
/-- the name told of a cut -/
def nmC (n : Nat) (c : List Ln) : Mat := leastM n (formF (n + 3) c)
theorem dd_rep {n : Nat} (h1 : 1 ≤ n) (h4 : n ≤ 4) : (((allC ((linesN (n + 3)).map toLn) n).map (nmC n)).foldl ddStep []).Perm (repL n) := by
  refine (List.perm_ext_iff_of_nodup (dd_nd _ (by simp)) (rep_nd h1 h4)).mpr fun M => ?_
  rw [dd_mem]
  constructor
  · rintro (h | h)
    · cases h
    · obtain ⟨c, hc, rfl⟩ := List.mem_map.mp h
      exact cut_rep h4 (all_cut h1 h4 hc)
  · intro h
    obtain ⟨c, hc, e⟩ := all_rep h1 h4 h
    exact .inr (List.mem_map.mpr ⟨c, hc, e⟩)
theorem rep_cnt {n : Nat} (h1 : 1 ≤ n) (h4 : n ≤ 4) : [V.int 1, .int 1, .int 4, .int 6][n - 1]? = some (.int ((repL n).length : Int)) := by
  rcases (show n = 1 ∨ n = 2 ∨ n = 3 ∨ n = 4 by omega) with rfl | rfl | rfl | rfl <;> rfl
theorem rep_len {n : Nat} (h1 : 1 ≤ n) (h4 : n ≤ 4) : (repL n).length ≤ 6 := by
  rcases (show n = 1 ∨ n = 2 ∨ n = 3 ∨ n = 4 by omega) with rfl | rfl | rfl | rfl <;> decide
/-- the lines so far -/
def linesBt (c i : Nat) : List NL := (List.range i).flatMap fun b => ((List.range b).filter fun a : Nat => lineB (c : Int) ((a : Int), (b : Int))).map fun a => (a, b)
theorem linesBt_succ (c i : Nat) : (linesBt c (i + 1)).map toLn = (linesBt c i).map toLn ++ ((List.range i).filter fun a : Nat => lineB (c : Int) ((a : Int), (i : Int))).map fun a : Nat => (((a : Int), (i : Int)) : Ln) := by
  unfold linesBt
  rw [List.range_succ, List.flatMap_append, List.map_append]
  congr 1
  rw [List.flatMap_singleton, List.map_map]
  rfl
theorem linesBt_len (c : Nat) : ∀ i, (linesBt c i).length ≤ i * i
  | 0 => by simp [linesBt]
  | i + 1 => by
    have ih := linesBt_len c i
    have h := congrArg List.length (linesBt_succ c i)
    rw [List.length_map, List.length_append, List.length_map, List.length_map] at h
    have h2 := List.length_filter_le (fun a : Nat => lineB (c : Int) ((a : Int), (i : Int))) (List.range i)
    rw [List.length_range] at h2
    have : (i + 1) * (i + 1) = i * i + i + i + 1 := by rw [Nat.mul_add, Nat.add_mul]; omega
    omega
theorem eqv_Ms : ∀ Ms : List Mat, PyData.eqvAll (Ms.map fun M => PyData.list (dM M)) (Ms.map fun M => PyData.list (dM M)) = true
  | [] => rfl
  | M :: Ms => by
    show (PyData.eqvAll (dM M) (dM M) && PyData.eqvAll (Ms.map fun M => PyData.list (dM M)) (Ms.map fun M => PyData.list (dM M))) = true
    rw [eqv_M, eqv_Ms Ms]
    simp
theorem reachM_len (n : Nat) (f : Fun2) : (reachM n f).length = (waysL n f).length := by unfold reachM sortMat; rw [List.length_mergeSort, List.length_map]
section
variable {K : Frag} {σ : St} {H H0 : Hp} {t1 t2 te : TE} {t : TT} {a d x y : Addr} {n : Nat} {f g : Fun2} {M N : Mat} {Ms : List Mat} {C C1 C2 : Addr} {E : XK}
theorem spr_least {C1 C2 a : Addr} {H : Hp} {n : Nat} {f : Nat → Nat → Int} (hf : FormOf n f) (h4 : n ≤ 4) (hM : LLI K H a (Fm n f)) : SpR (sp_least K C1 C2) [.ref a] H (RM (leastM n f)) := fun H1 e1 Q q E =>
  ⟨a, _, rfl, hM.mono e1, small_fm (by omega), fun hF => absurd (fmI hf) hF, fun n' f' e hf' => by
    obtain ⟨rfl, ee⟩ := fm_inj e
    refine ⟨fun z => by omega, fun _ H' p e2 hO => q _ H' e2 ⟨p, rfl, ?_⟩⟩
    rw [leastM_ext ee]
    exact hO⟩
theorem er_leastR (hf : FormOf n f) (h4 : n ≤ 4) (h1 : Er t1 σ H (RM (Fm n f))) : Er (tCall (sp_least K C1 C2) [] E (tCons t1 tNil)) σ H (RM (leastM n f)) :=
  er_callR1 mon_RM h1 ea_nil fun v1 G1 G2 G3 g1 g2 g3 ⟨c, hc, hOc⟩ => by
    subst hc
    exact spr_least hf h4 (hOc.lli.mono g3)
theorem rv_neMs (hx : LL3 K H x Ms) (hy : LL3 K H y Ms) : RV (rNeD K) (.ref x) (.ref y) H (.bl false) := fun G g Q k =>
  ⟨_, _, (hx.mono g).dp, (hy.mono g).dp, shaped_Ms Ms, shaped_Ms Ms, by
    have : PyData.eqv (.list (Ms.map fun M => PyData.list (dM M))) (.list (Ms.map fun M => PyData.list (dM M))) = true := eqv_Ms Ms
    rw [this]
    exact k G (Ex.refl _)⟩
theorem ev_lenLL3 (h : Ev t1 σ H (.ref d)) (hL : LL3 K H d Ms) : Ev (tCB (rLenS K) (tCons t1 tNil)) σ H (.int (Ms.length : Int)) := by
  obtain ⟨as, h1, h2⟩ := hL
  have := ev_len (K := K) h h1
  rw [List.length_map, h2.length] at this
  exact this
theorem er_LL3 (h : Ev te σ H (.ref a)) (hL : LL3 K H a Ms) : Er te σ H (fun _ G2 v => ∃ b, v = .ref b ∧ LL3 K G2 b Ms) := fun H1 e Q q => h H1 e Q fun H2 e2 => q _ H2 e2 ⟨a, rfl, hL.mono (e.trans e2)⟩
theorem spr_reach (hf : FormOf n f) (h4 : n ≤ 4) (h20 : (waysL n f).length ≤ 20) (hM : LLI K H a (Fm n f)) : SpR (sp_reach K C) [.ref a] H (R3M (reachM n f)) := fun H1 e1 Q q E =>
  ⟨a, n, f, rfl, hM.mono e1, hf, h4, fun z => by omega, fun _ H' p e hO => q _ H' e ⟨p, rfl, hO⟩⟩
theorem spr_way {s : WE} (hf : FormOf n f) (h4 : n ≤ 4) (h20 : (waysL n f).length ≤ 20) (hM : LLI K H a (Fm n f)) (hg : FormOf n g) (hN : LLI K H d (Fm n g)) (hw : wayTo n f (leastM n g) = some s) : SpR (sp_way K C) [.ref a, .ref d] H (RL (nI s.1)) := fun H1 e1 Q q E =>
  ⟨a, d, n, n, f, g, rfl, hM.mono e1, hf, h4, hN.mono e1, hg, fun z => by omega, fun _ => ⟨fun z => absurd rfl z, fun _ => ⟨(fun z => by rw [hw] at z; cases z), fun s' hs H' p e hO => by
    rw [hw] at hs
    cases hs
    exact q _ H' e ⟨p, rfl, hO⟩⟩⟩⟩
/-- _law_line(corners, (a, b)) -/
theorem ev_lineU {c : Int} {p : Ln} (h1 : Ev t1 σ H (.int c)) (h2 : EvU t2 σ H [.int p.1, .int p.2]) : Ev (tCall (sp_line_right K) [] E (tCons t1 (tCons t2 tNil))) σ H (.bl (lineB c p)) := fun H1 e Q q =>
  h1 H1 e _ fun H2 e2 => h2 H2 (e.trans e2) _ fun x H3 hx e3 hx3 => ⟨c, x, p, rfl, st_of hx3, fun H' e4 => q H' ((e2.trans e3).trans e4)⟩
theorem spr_all {w : Nat} {ls : List Ln} (hL : LP K H a ls) (h1 : ls.length ≤ 14) (h2 : w ≤ 10) : SpR (sp__law_all K) [.ref a, .int (w : Int)] H (RC2 K (allC ls w)) := fun H1 e1 Q q E =>
  ⟨a, w, ls, rfl, hL.mono e1, h1, h2, fun H' v e h => q v H' e h⟩
/-- int(j - i == 1) - int(i - j == 1) -/
theorem ev_rowF {i j u v : Nat} (hi : σ[u]? = some (some (.int (i : Int)))) (hj : σ[v]? = some (some (.int (j : Int)))) : Ev (tOp (rI0 fun i j => .int (i - j)) (tCB (fun xs H Q => (∃ i, xs = [.int i] ∧ Q (.int i) H) ∨ ∃ k, xs = [.bl k] ∧ Q (.int (if k then 1 else 0)) H) (tCons (tOp rEq (tOp (rI0 fun i j => .int (i - j)) (tVar v) (tVar u)) (tC (.int 1))) tNil)) (tCB (fun xs H Q => (∃ i, xs = [.int i] ∧ Q (.int i) H) ∨ ∃ k, xs = [.bl k] ∧ Q (.int (if k then 1 else 0)) H) (tCons (tOp rEq (tOp (rI0 fun i j => .int (i - j)) (tVar u) (tVar v)) (tC (.int 1))) tNil))) σ H (.int (rowF i j)) :=
  ev_cast (ev_op (ev_int1 (ev_op (ev_op (ev_var hj) (ev_var hi) rv_I0) ev_c (rv_eq rfl))) (ev_int1 (ev_op (ev_op (ev_var hi) (ev_var hj) rv_I0) ev_c (rv_eq rfl))) rv_I0) (by
    have a1 : decide (V.int ((j : Int) - (i : Int)) = V.int 1) = Nat.beq j (i + 1) := by rw [dec_int, Bool.eq_iff_iff, decide_eq_true_eq, Nat.beq_eq]; omega
    have a2 : decide (V.int ((i : Int) - (j : Int)) = V.int 1) = Nat.beq i (j + 1) := by rw [dec_int, Bool.eq_iff_iff, decide_eq_true_eq, Nat.beq_eq]; omega
    rw [a1, a2]
    rfl)
end
section
variable {P : Program} {w : World} {K : Frag} {mg : Str → Option Value} {base : Heap} {k : Nat}
theorem ok_law (T : Txt K mg) (G__law_cell : FnOk P w K mg base CX0 k T.f__law_cell T.d__law_cell ["script", "k"] (sp__law_cell K)) (G_row : FnOk P w K mg base (L2.CX P w) k T.f_row T.d_row ["boxes"] (sp_row K T.c_NoBox)) (G__law_like : FnOk P w K mg base CX0 k T.f__law_like T.d__law_like ["found", "due"] (sp__law_like K))
    (G__law_refused : FnOk P w K mg base CX0 k T.f__law_refused T.d__law_refused ["boxes"] sp__law_refused15) (G__law_line : FnOk P w K mg base CX0 k T.f__law_line T.d__law_line ["corners", "line"] (sp_line_right K)) (G__law_all : FnOk P w K mg base CX0 k T.f__law_all T.d__law_all ["lines", "wanted"] (sp__law_all K))
    (G_least : FnOk P w K mg base (L2.CX P w) k T.f_least T.d_least ["form"] (sp_least K T.c_NoForm T.c_TooMany)) (G_form_of : FnOk P w K mg base (L2.CX P w) k T.f_form_of T.d_form_of ["corners", "lines"] (sp_form_of K T.c_NoCut)) (G_reach : FnOk P w K mg base (L2.CX P w) k T.f_reach T.d_reach ["form"] (sp_reach K T.c_TooMany))
    (G__law_cut : FnOk P w K mg base CX0 k T.f__law_cut T.d__law_cut ["script", "k", "corners"] (sp__law_cut K)) (G_way : FnOk P w K mg base (L2.CX P w) k T.f_way T.d_way ["form", "other"] (sp_way K T.c_TooMany)) (G__law_copy : FnOk P w K mg base CX0 k T.f__law_copy T.d__law_copy ["form"] (sp__law_copy K))
    (G__law_turn : FnOk P w K mg base CX0 k T.f__law_turn T.d__law_turn ["form", "box"] (sp__law_turn K)) (G_alike : FnOk P w K mg base (L2.CX P w) k T.f_alike T.d_alike ["form", "other"] (sp_alike K)) : FnOk P w K mg base CX0 (k + 1) T.f_law T.d_law ["script"] (sp_law K) := by
  refine T.F_law.ok sc_law (fun vs H Q E h => ?_) (fun cdv A outer s H vs Q E hr h => ?_)
  · obtain ⟨a, ns, rfl, _⟩ := h
    rfl
  · obtain ⟨a, ns, rfl, hL, hlen, q⟩ := h
    have hL : LI K H a ns := hL
    refine ⟨_, (pss_cons (ps_set (i := 1) sc_law.nd rfl (.inr rfl) (pe_op op_add pe_int (pe_op op_modN (pe_call G__law_cell hr rfl T.m__law_cell T.F__law_cell.kp T.b__law_cell .nil pass0 (pa_cons (pv 0) (pa_cons pe_int pa_nil))) pe_int)))
      (pss_cons (ps_setLc (i := 2) (own := [("i", 16)]) rfl sc_law.nd rfl rfl (sw_true rfl rfl rfl (by decide +kernel)) (pi_range1 rfl T.b_range (pa_cons (pv 1) pa_nil)) (blkOk_by (own := [("i", 16)]) (N := N_law) (sc := defScope s_law) (by decide +kernel)) (fun _ _ _ _ _ => (pg_name (i := 16) sc_law.nd rfl (.inr rfl))) (fun _ _ _ _ _ => pts_nil) (fun _ _ _ _ _ => (pe_lc (own := [("j", 17)]) rfl sc_law.nd (pi_range1 rfl T.b_range (pa_cons (pv 1) pa_nil)) (blkOk_by (own := [("j", 17)]) (N := N_law) (sc := relS { kind := .function, names := [(PySem.Str.ofString ".0", PySem.NameKind.local), (PySem.Str.ofString "i", PySem.NameKind.cell), (PySem.Str.ofString "range", PySem.NameKind.globalImplicit), (PySem.Str.ofString "boxes", PySem.NameKind.free)], isGenerator := false, isCoroutine := false, more := [] } (defScope s_law)) (by decide +kernel)) (fun _ _ _ _ _ => (pg_name (i := 17) sc_law.nd rfl (.inl rfl))) (fun _ _ _ _ _ => pts_nil) (fun _ _ _ _ _ => (pe_op op_sub (pe_callTy call_int1 rfl T.b_int (by decide +kernel) (pa_cons (pe_cmpR op_eq (pe_op op_sub (pv 17) (pv 16)) pe_int (nomark _)) pa_nil)) (pe_callTy call_int1 rfl T.b_int (by decide +kernel) (pa_cons (pe_cmpR op_eq (pe_op op_sub (pv 16) (pv 17)) pe_int (nomark _)) pa_nil)))))))
      (pss_cons (ps_set (i := 3) sc_law.nd rfl (.inl rfl) (pe_call G_row hr rfl T.m_row T.F_row.kp T.b_row .nil passL (pa_cons (pv 1) pa_nil)))
      (pss_cons (ps_if (pt_not (pt_val (pe_call G__law_like hr rfl T.m__law_like T.F__law_like.kp T.b__law_like .nil pass0 (pa_cons (pv 3) (pa_cons (pv 2) pa_nil)))))
        (pss_one (ps_ret pe_bl))
        pss_nil)
      (pss_cons (ps_expr (bmK K PySem.F.plainAttrs_list PySem.F.slot_list_append PySem.F.type_list_append mt_append (pe_ix (ixL K) (pv 3) pe_int (fun _ _ => rfl)) (pa_cons pe_int pa_nil)))
      (pss_cons (ps_if (pt_not (pt_val (pe_call G__law_like hr rfl T.m__law_like T.F__law_like.kp T.b__law_like .nil pass0 (pa_cons (pe_call G_row hr rfl T.m_row T.F_row.kp T.b_row .nil passL (pa_cons (pv 1) pa_nil)) (pa_cons (pv 2) pa_nil)))))
        (pss_one (ps_ret pe_bl))
        pss_nil)
      (pss_cons (ps_set (i := 4) sc_law.nd rfl (.inl rfl) (pe_ix (ixL K) (pe_lst (pa_cons pe_int (pa_cons pe_int (pa_cons (pe_un un_neg pe_int) (pa_cons (pe_op op_pow pe_int pe_int) (pa_cons (pe_op op_sub pe_int (pe_op op_pow pe_int pe_int)) pa_nil)))))) (pe_op op_modN (pe_call G__law_cell hr rfl T.m__law_cell T.F__law_cell.kp T.b__law_cell .nil pass0 (pa_cons (pv 0) (pa_cons pe_int pa_nil))) pe_int) (fun _ _ => rfl)))
      (pss_cons (ps_if (pt_not (pt_val (pe_call G__law_refused hr rfl T.m__law_refused T.F__law_refused.kp T.b__law_refused .nil pass0 (pa_cons (pv 4) pa_nil))))
        (pss_one (ps_ret pe_bl))
        pss_nil)
      (pss_cons (ps_if (pt_cmpR op_gt (pv 1) pe_int (nomark _))
        (pss_one (ps_ret pe_bl))
        pss_nil)
      (pss_cons (ps_set (i := 5) sc_law.nd rfl (.inr rfl) (pe_op op_add (pv 1) pe_int))
      (pss_cons (ps_set (i := 6) sc_law.nd rfl (.inl rfl) (pe_lst pa_nil))
      (pss_cons (ps_for PassesOwn.never rfl (pi_range1 rfl T.b_range (pa_cons (pv 5) pa_nil)) (pg_name (i := 7) sc_law.nd rfl (.inr rfl))
        (pss_one (ps_set (i := 6) sc_law.nd rfl (.inl rfl) (pe_op op_cat (pv 6) (pe_lc (own := [("a", 18)]) rfl sc_law.nd (pi_range1 rfl T.b_range (pa_cons (pv 7) pa_nil)) (blkOk_by (own := [("a", 18)]) (N := N_law) (sc := defScope s_law) (by decide +kernel)) (fun _ _ _ _ _ => (pg_name (i := 18) sc_law.nd rfl (.inl rfl))) (fun _ _ _ _ _ => (pts_one (pt_val (pe_call G__law_line hr rfl T.m__law_line T.F__law_line.kp T.b__law_line .nil pass0 (pa_cons (pv 5) (pa_cons (pe_tup (pa_cons (pv 18) (pa_cons (pv 7) pa_nil))) pa_nil)))))) (fun _ _ _ _ _ => (pe_tup (pa_cons (pv 18) (pa_cons (pv 7) pa_nil)))))))))
      (pss_cons (ps_set (i := 8) sc_law.nd rfl (.inl rfl) (pe_lst pa_nil))
      (pss_cons (ps_for PassesOwn.never rfl (pi_listK K (pe_call G__law_all hr rfl T.m__law_all T.F__law_all.kp T.b__law_all .nil pass0 (pa_cons (pe_callB (sortedDK K hr.units) rfl T.b_sorted (by decide +kernel) (pa_cons (pv 6) pa_nil)) (pa_cons (pv 1) pa_nil)))) (pg_name (i := 9) sc_law.nd rfl (.inl rfl))
        (pss_cons (ps_set (i := 10) sc_law.nd rfl (.inl rfl) (pe_call G_least hr rfl T.m_least T.F_least.kp T.b_least .nil passL (pa_cons (pe_call G_form_of hr rfl T.m_form_of T.F_form_of.kp T.b_form_of .nil passL (pa_cons (pv 5) (pa_cons (pv 9) pa_nil))) pa_nil)))
      (pss_one (ps_if (pt_cmpR (ninDK K hr.units65) (pv 10) (pv 8) rfl)
        (pss_one (ps_expr (bmK K PySem.F.plainAttrs_list PySem.F.slot_list_append PySem.F.type_list_append mt_append (pv 8) (pa_cons (pv 10) pa_nil))))
        pss_nil))))
      (pss_cons (ps_set (i := 11) sc_law.nd rfl (.inl rfl) (pe_call G_reach hr rfl T.m_reach T.F_reach.kp T.b_reach .nil passL (pa_cons (pe_call G_row hr rfl T.m_row T.F_row.kp T.b_row .nil passL (pa_cons (pv 1) pa_nil)) pa_nil)))
      (pss_cons (ps_if (PW.pt (pw_or (pt_cmpR (neDK K hr.units) (pv 11) (pe_callB (sortedDK K hr.units) rfl T.b_sorted (by decide +kernel) (pa_cons (pv 8) pa_nil)) (nomark _)) (pw_or1 (pt_cmpR op_ne (pe_callB (lenK K) rfl T.b_len PySem.boot_len (pa_cons (pv 11) pa_nil)) (pe_ix (ixL K) (pe_lst (pa_cons pe_int (pa_cons pe_int (pa_cons pe_int (pa_cons pe_int pa_nil))))) (pe_op op_sub (pv 1) pe_int) (fun _ _ => rfl)) (nomark _)))))
        (pss_one (ps_ret pe_bl))
        pss_nil)
      (pss_cons (ps_set (i := 12) sc_law.nd rfl (.inl rfl) (pe_call G_form_of hr rfl T.m_form_of T.F_form_of.kp T.b_form_of .nil passL (pa_cons (pv 5) (pa_cons (pe_call G__law_cut hr rfl T.m__law_cut T.F__law_cut.kp T.b__law_cut .nil pass0 (pa_cons (pv 0) (pa_cons pe_int (pa_cons (pv 5) pa_nil)))) pa_nil))))
      (pss_cons (ps_set (i := 13) sc_law.nd rfl (.inl rfl) (pe_call G_way hr rfl T.m_way T.F_way.kp T.b_way .nil passL (pa_cons (pe_call G_row hr rfl T.m_row T.F_row.kp T.b_row .nil passL (pa_cons (pv 1) pa_nil)) (pa_cons (pe_call G__law_copy hr rfl T.m__law_copy T.F__law_copy.kp T.b__law_copy .nil pass0 (pa_cons (pv 12) pa_nil)) pa_nil))))
      (pss_cons (ps_if (pt_not (pt_val (pe_callB (isiK K) rfl T.b_isinstance (by decide +kernel) (pa_cons (pv 13) (pa_cons (pe_bltn (v := .ty "list") rfl T.b_list (by decide +kernel) rfl) pa_nil)))))
        (pss_one (ps_ret pe_bl))
        pss_nil)
      (pss_cons (ps_set (i := 14) sc_law.nd rfl (.inl rfl) (pe_call G_row hr rfl T.m_row T.F_row.kp T.b_row .nil passL (pa_cons (pv 1) pa_nil)))
      (pss_cons (ps_for PassesOwn.never rfl (pi_listK K (pv 13)) (pg_name (i := 15) sc_law.nd rfl (.inl rfl))
        (pss_one (ps_set (i := 14) sc_law.nd rfl (.inl rfl) (pe_call G__law_turn hr rfl T.m__law_turn T.F__law_turn.kp T.b__law_turn .nil pass0 (pa_cons (pv 14) (pa_cons (pv 15) pa_nil))))))
      (pss_one (ps_ret (pe_cmpR op_notN (pe_call G_alike hr rfl T.m_alike T.F_alike.kp T.b_alike .nil passL (pa_cons (pv 14) (pa_cons (pv 12) pa_nil))) pe_non (nomark _))))))))))))))))))))))))), ?_⟩
    obtain ⟨n, hn, h1, h6⟩ : ∃ n : Nat, 1 + cellV ns 0 % 6 = (n : Int) ∧ 1 ≤ n ∧ n ≤ 6 := ⟨(1 + cellV ns 0 % 6).toNat, by omega, by omega, by omega⟩
    refine q_asg (v := .int (n : Int)) (ev_cast (ev_op ev_c (ev_mod (ev_cv (j := 0) hL (ea_cons (ev_var rfl) (ea_cons ev_c ea_nil)) (by omega)) ev_c (by decide)) rv_I0) (by rw [hn])) fun H1 e1 => ?_
    refine qr_asg (R := RM (Fm n rowF)) ?_ fun v H2 e2 ⟨d, hv, hOd⟩ => ?_
    · refine em_lcR (n := (n : Int)) (fun i => (List.range n).map (rowF i)) (ea_cons (ev_var (v := .int (n : Int)) rfl) ea_nil) (by omega) (fun _ => rfl) (fun i H3 e3 hi => er_of_evl ?_)
      have := el_lcR1 (n := (n : Int)) (σ := (wipe [some (V.ref a), some (.int (n : Int)), none, none, none, none, none, none, none, none, none, none, none, none, none, none, none, none, none] [16]).set 16 (some (.int (i : Int)))) (H := H3) (ta := tCons (tVar 1) tNil) (j := 17) (vs := [17]) (t := tYes) (te := tOp (rI0 fun i j => .int (i - j)) (tCB (fun xs H Q => (∃ i, xs = [.int i] ∧ Q (.int i) H) ∨ ∃ k, xs = [.bl k] ∧ Q (.int (if k then 1 else 0)) H) (tCons (tOp rEq (tOp (rI0 fun i j => .int (i - j)) (tVar 17) (tVar 16)) (tC (.int 1))) tNil)) (tCB (fun xs H Q => (∃ i, xs = [.int i] ∧ Q (.int i) H) ∨ ∃ k, xs = [.bl k] ∧ Q (.int (if k then 1 else 0)) H) (tCons (tOp rEq (tOp (rI0 fun i j => .int (i - j)) (tVar 16) (tVar 17)) (tC (.int 1))) tNil)))
        (fun _ => true) (fun j => .int (rowF i j)) (ea_cons (ev_var (v := .int (n : Int)) rfl) ea_nil) (by omega) (fun _ => rfl) (fun _ _ _ _ _ _ Q q => q _ (Ex.refl _)) (fun j H4 e4 hj _ => ev_rowF (i := i) (j := j) rfl rfl)
      unfold given at this
      rw [filt_all] at this
      rw [List.map_map]
      exact this
    subst hv
    have hD : LLI K H2 d (Fm n rowF) := hOd.lli
    have hsm : SmallM (Fm n rowF) := small_fm (by omega)
    refine qr_asg (er_row (C := T.c_NoBox) h1 h6 (ev_var (v := .int (n : Int)) rfl)) fun v H3 e3 ⟨r, hv, hOr⟩ => ?_
    subst hv
    refine q_when (b := false) (et_is (et_not (et_test (ev_call (ea_cons (ev_var (v := .ref r) rfl) (ea_cons (ev_var (v := .ref d) rfl) ea_nil)) (spv_like hOr.tll (hD.mono e3) hsm)))) (by simp)) (fun hb => nomatch hb) (fun _ H4 e4 => ?_)
    -- a change of what was told
    obtain ⟨as, hr0, hr1, hrn, hrP⟩ := hOr
    obtain ⟨x, hx, hx0, hx1⟩ := paired_get hrP (fm_get (f := rowF) (n := n) (i := 0) (by omega))
    have hix : RV (rIxL K) (.ref r) (.int ((0 : Nat) : Int)) H4 (.ref x) := rv_ixL (sq_of (e4 _ _ hr1)) (atI_n (by rw [List.getElem?_map, hx]; rfl))
    refine q_app (v := .int 0) (e4 _ _ hx1) (ev_op (ev_var (v := .ref r) rfl) ev_c hix) ev_c (by rw [List.length_map, List.length_map, List.length_range]; omega) fun H5 e5 => ?_
    generalize hG : L2.upd H5 x (.lst (((List.range n).map (rowF 0)).map V.int ++ [V.int 0])) = H6
    have e26 : Ex H2 H6 := by
      rw [← hG]
      exact Ex.mut ((e3.trans e4).trans e5) hx0
    have hD6 := hD.mono e26
    have e06 := (e1.trans e2).trans e26
    refine q_when (b := false) (et_is (et_not (et_test (ev_likeR (er_row (C := T.c_NoBox) h1 h6 (ev_var (v := .int (n : Int)) rfl)) (ev_var (v := .ref d) rfl) hD6 hsm))) (by simp)) (fun hb => nomatch hb) (fun _ H7 e7 => ?_)
    have e07 := e06.trans e7
    obtain ⟨m, hm⟩ : ∃ m : Nat, cellV ns 1 % 5 = (m : Int) := ⟨(cellV ns 1 % 5).toNat, by omega⟩
    have hm5 : m < 5 := by omega
    have hoff : ∃ off : Int, [V.int 0, .int 7, .int (-1), .int (10 ^ (29 : Int).toNat), .int (1 - 10 ^ (29 : Int).toNat)][m]? = some (.int off) ∧ (off < 1 ∨ 6 < off) := by
      rcases (show m = 0 ∨ m = 1 ∨ m = 2 ∨ m = 3 ∨ m = 4 by omega) with rfl | rfl | rfl | rfl | rfl
      · exact ⟨_, rfl, by omega⟩
      · exact ⟨_, rfl, by omega⟩
      · exact ⟨_, rfl, by omega⟩
      · exact ⟨_, rfl, .inr (by decide)⟩
      · exact ⟨_, rfl, .inl (by decide)⟩
    obtain ⟨off, ho1, ho2⟩ := hoff
    refine q_asg (ev_menu (i := m) (ea_cons ev_c (ea_cons ev_c (ea_cons (ev_un ev_c ru_neg) (ea_cons (ev_op ev_c ev_c (rv_I (show CPow 10 29 from ⟨by decide, by decide, by decide⟩))) (ea_cons (ev_op ev_c (ev_op ev_c ev_c (rv_I (show CPow 10 29 from ⟨by decide, by decide, by decide⟩))) rv_I0) ea_nil))))) (by show 5 ≤ 100000; decide) (fun G1 g1 => ev_cast (ev_mod (ev_cv (j := 1) (hL.mono (e07.trans g1)) (ea_cons (ev_var (v := .ref a) rfl) (ea_cons ev_c ea_nil)) (by decide)) ev_c (by decide)) (by rw [hm])) ho1) fun H8 e8 => ?_
    refine q_when (b := false) (et_is (et_not (et_test (ev_call (z := .bl true) (ea_cons (ev_var (v := .int off) rfl) ea_nil) fun G1 g1 Q' q' E' => ⟨off, rfl, ho2, q'⟩))) rfl) (fun hb => nomatch hb) (fun _ H9 e9 => ?_)
    refine q_when (et_test (ev_op (ev_var (v := .int (n : Int)) rfl) ev_c rv_I0)) (fun hb H10 e10 => s_ret ev_c fun H11 e11 => q H11) (fun hb H10 e10 => ?_)
    have h4 : n ≤ 4 := by
      rw [decide_eq_false_iff_not] at hb
      omega
    have hrf := row_form h1 h6
    have h20 := row_len h1 h4
    have e010 := ((e07.trans e8).trans e9).trans e10
    refine q_asg (v := .int ((n + 3 : Nat) : Int)) (ev_cast (ev_op (ev_var (v := .int (n : Int)) rfl) ev_c rv_I0) (by congr 1)) fun H11 e11 => ?_
    have e011 := e010.trans e11
    -- the lines
    refine q_asgL (xs := []) (el_lst ea_nil (by simp)) fun l0 H12 hl0 e12 hl02 => ?_
    refine q_forR1 (n := ((n + 3 : Nat) : Int)) (ea_cons (ev_var (v := .int ((n + 3 : Nat) : Int)) rfl) ea_nil) (by omega) (fun i σ' H' => ∃ la x7, σ' = [some (.ref a), some (.int (n : Int)), some (.ref d), some (.ref r), some (.int off), some (.int ((n + 3 : Nat) : Int)), some (.ref la), x7, none, none, none, none, none, none, none, none, none, none, none] ∧ Ex H12 H' ∧ LPH H' la ((linesBt (n + 3) i).map toLn))
      (fun H13 e13 => ⟨l0, _, rfl, e13, [], e13 _ _ hl02, .nil⟩) (fun b σ' H13 hb hP => ?_) (fun σ' H13 hP => ?_)
    · obtain ⟨la, x7, rfl, e13, hla⟩ := hP
      have hb7 : b < 7 := by omega
      have hbl := linesBt_len (n + 3) b
      have hbb : b * b ≤ 7 * 7 := Nat.mul_le_mul (by omega) (by omega)
      refine sr_asg (er_catP (ss' := ((List.range (b : Int).toNat).filter fun a : Nat => lineB ((n + 3 : Nat) : Int) ((a : Int), (b : Int))).map fun a : Nat => (((a : Int), (b : Int)) : Ln)) (ev_var (v := .ref la) rfl) hla (er_lcPairs (n := (b : Int)) (fun a : Nat => lineB ((n + 3 : Nat) : Int) ((a : Int), (b : Int))) (fun a : Nat => (((a : Int), (b : Int)) : Ln)) (ea_cons (ev_var (v := .int (b : Int)) rfl) ea_nil) (by omega) (fun _ => rfl)
        (fun i G1 g1 hi => et_test (ev_lineU (p := ((i : Int), (b : Int))) (ev_var (v := .int ((n + 3 : Nat) : Int)) rfl) (eu_tup (ea_cons (ev_var (v := .int (i : Int)) rfl) (ea_cons (ev_var (v := .int (b : Int)) rfl) ea_nil)) (by show 2 ≤ 100000; decide))))
        (fun i G1 g1 hi _ => eu_tup (ea_cons (ev_var (v := .int (i : Int)) rfl) (ea_cons (ev_var (v := .int (b : Int)) rfl) ea_nil)) (by show 2 ≤ 100000; decide))) ?_) fun v H14 e14 ⟨lb, hv, _, hlb⟩ => ?_
      · rw [List.length_map, List.length_map]
        have h2 := List.length_filter_le (fun a : Nat => lineB ((n + 3 : Nat) : Int) ((a : Int), (b : Int))) (List.range (b : Int).toNat)
        rw [List.length_range] at h2
        omega
      · subst hv
        refine ⟨lb, _, rfl, e13.trans e14, ?_⟩
        rw [linesBt_succ]
        exact hlb
    · obtain ⟨la, x7, rfl, e13, hla⟩ := hP
      have hla : LPH H13 la ((linesB (n + 3)).map toLn) := hla
      have hlal := linesBt_len (n + 3) (n + 3)
      have hlal2 : (n + 3) * (n + 3) ≤ 7 * 7 := Nat.mul_le_mul (by omega) (by omega)
      have hsrt := linesB_sort (c := n + 3) (by omega) (by omega)
      have hsl := linesN_len (c := n + 3) (by omega) (by omega)
      have e013 := (e011.trans e12).trans e13
      refine q_asgL (xs := []) (el_lst ea_nil (by simp)) fun so H14 hso e14 hso2 => ?_
      have hla14 := hla.mono e14
      have hsr := er_sortedP (K := K) (σ := [some (.ref a), some (.int (n : Int)), some (.ref d), some (.ref r), some (.int off), some (.int ((n + 3 : Nat) : Int)), some (.ref la), x7, some (.ref so), none, none, none, none, none, none, none, none, none, none]) (H := H14) (te := tVar 6) (er_LP (K := K) (ev_var (v := .ref la) rfl) hla14.lp) (fun _ _ _ h => h) (by rw [List.length_map]; show (linesBt (n + 3) (n + 3)).length ≤ 10000; omega)
      rw [hsrt] at hsr
      refine q_forE (er_callR1 (mon_RC2 (K := K) (Cs := allC ((linesN (n + 3)).map toLn) n)) hsr (ea_cons (ev_var (v := .int (n : Int)) rfl) ea_nil) fun v1 G1 G2 G3 g1 g2 g3 ⟨c, hc, hOc⟩ => by
        subst hc
        exact spr_all (w := n) (hOc.lp.mono g3) (by rw [List.length_map]; exact hsl) (by omega)) fun v H15 e15 ⟨ca, zs, hv, hC, hz⟩ => ?_
      refine ⟨ca, zs.map (fun z => V.ref z.1), hv, sq_of hC.2.1, fun i σ' H' => ∃ x9 x10 D, σ' = [some (.ref a), some (.int (n : Int)), some (.ref d), some (.ref r), some (.int off), some (.int ((n + 3 : Nat) : Int)), some (.ref la), x7, some (.ref so), x9, x10, none, none, none, none, none, none, none, none] ∧ Ex H13 H' ∧ OL3 H13 H' so D ∧ OC K H14 H' ca zs ∧ D = (((zs.map (·.2)).take i).map (nmC n)).foldl ddStep [],
        ⟨_, _, [], rfl, e14.trans e15, (OL3.nil hso hso2).mono e15, hC, rfl⟩, fun i σ' H' _ hP => by obtain ⟨_, _, _, rfl, _, _, hC', _⟩ := hP; exact sq_of hC'.2.1, fun i x σ' H' hx hP => ?_, fun σ' H' hP => ?_⟩
      · obtain ⟨x9, x10, D, rfl, eH, hDs, hC', hDd⟩ := hP
        rw [List.getElem?_map] at hx
        cases hzx : zs[i]? with
        | none => rw [hzx] at hx; cases hx
        | some z =>
          rw [hzx] at hx
          cases hx
          have hzm := List.mem_of_getElem? hzx
          have hcut : IsCut ((n + 3 : Nat) : Int) z.2 := all_cut h1 h4 (by rw [← hz]; exact List.mem_map.mpr ⟨z, hzm, rfl⟩)
          have hcl := cut_len hcut
          have hfo := form_okS hcut
          have hzl : LP K H' z.1 z.2 := (hC'.2.2 z hzm).2.2.lp
          have hfm := er_formof (K := K) (CC := T.c_NoCut) (E := E0) (n := n + 3) (σ := [some (.ref a), some (.int (n : Int)), some (.ref d), some (.ref r), some (.int off), some (.int ((n + 3 : Nat) : Int)), some (.ref la), x7, some (.ref so), some (.ref z.1), x10, none, none, none, none, none, none, none, none]) (H := H') (ta := tCons (tVar 5) (tCons (tVar 9) tNil)) (ea_cons (ev_var (v := .int ((n + 3 : Nat) : Int)) rfl) (ea_cons (ev_var (v := .ref z.1) rfl) ea_nil)) hzl hcut
          rw [hcl] at hfm hfo
          refine qr_asg (er_leastR (C1 := T.c_NoForm) (C2 := T.c_TooMany) hfo h4 hfm) fun v H16 e16 ⟨nm, hv, hOn⟩ => ?_
          subst hv
          have hOn : OLLI H' H16 nm (nmC n z.2) := hOn
          have htk : (((zs.map (·.2)).take (i + 1)).map (nmC n)).foldl ddStep [] = ddStep D (nmC n z.2) := by
            have : (zs.map (·.2)).take (i + 1) = (zs.map (·.2)).take i ++ [z.2] := by rw [List.take_add_one, List.getElem?_map, hzx]; rfl
            rw [this, List.map_append, List.foldl_append, ← hDd]
            rfl
          obtain ⟨vs, hv1, hv2⟩ := hDs.len
          refine s_when (b := !decide (nmC n z.2 ∈ D)) (et_test (ev_op (ev_var (v := .ref nm) rfl) (ev_var (v := .ref so) rfl) (rv_ninMs hOn.lli (hDs.mono e16).ll3))) (fun hb H17 e17 => ?_) (fun hb H17 e17 => ?_)
          · have hni : ¬ nmC n z.2 ∈ D := by simpa using hb
            refine s_app (v := .ref nm) ((e16.trans e17) _ _ hv1) (ev_var (v := .ref so) rfl) (ev_var (v := .ref nm) rfl) ?_ fun H18 e18 => ?_
            · rw [hv2, hDd]
              have h5 : (((zs.map (·.2)).take i).map (nmC n)).foldl ddStep [] = D := hDd.symm
              have h3 : D.length ≤ (repL n).length := by
                refine nodup_sub_len (by rw [hDd]; exact dd_nd _ (by simp)) fun M hM => ?_
                rw [hDd, dd_mem] at hM
                rcases hM with hM | hM
                · cases hM
                · obtain ⟨c, hc, rfl⟩ := List.mem_map.mp hM
                  refine cut_rep h4 (all_cut h1 h4 ?_)
                  rw [← hz]
                  exact List.mem_of_mem_take hc
              have := rep_len h1 h4
              rw [h5]
              omega
            · have e168 := (e16.trans e17).trans e18
              obtain ⟨vs', g1, g2, g3, g4⟩ := hDs.push eH e168 (hOn.mono (e17.trans e18))
              have : vs' = vs := by
                have := e168 _ _ hv1
                rw [g1] at this
                injection this with this
                injection this
              subst this
              refine ⟨_, _, D ++ [nmC n z.2], rfl, g4, g3, (hC'.mono e168).upd (by rw [hso2]; exact Option.some_ne_none _) (e168 _ _ hv1), ?_⟩
              rw [htk]
              unfold ddStep
              rw [if_neg hni]
          · have hin : nmC n z.2 ∈ D := by simpa using hb
            refine ⟨_, _, D, rfl, eH.trans (e16.trans e17), hDs.mono (e16.trans e17), hC'.mono (e16.trans e17), ?_⟩
            rw [htk]
            unfold ddStep
            rw [if_pos hin]
      · obtain ⟨x9, x10, D, rfl, eH, hDs, hC', hDd⟩ := hP
        rw [List.length_map, ← List.length_map (f := (·.2)) (as := zs), List.take_length, hz] at hDd
        have hperm : D.Perm (repL n) := by rw [hDd]; exact dd_rep h1 h4
        have hDs3 : LL3 K H' so D := hDs.ll3
        have hrs : sortMat D = reachM n rowF := (sortMat_eq hperm).trans (row_reach h1 h4).symm
        have hDl : D.length ≤ 6 := by rw [hperm.length_eq]; exact rep_len h1 h4
        have e0H := e013.trans eH
        have hrw : ∀ {σ : St} {G : Hp}, σ[1]? = some (some (.int (n : Int))) → Er (tCall (sp_row K T.c_NoBox) [] E0 (tCons (tVar 1) tNil)) σ G (RM (Fm n rowF)) := fun hs => er_row h1 h6 (ev_var hs)
        refine qr_asg (er_callR1 (mon_R3M (Ms := reachM n rowF)) (hrw rfl) ea_nil fun v1 G1 G2 G3 g1 g2 g3 ⟨c, hc, hOc⟩ => by
          subst hc
          exact spr_reach (C := T.c_TooMany) hrf h4 h20 (hOc.lli.mono g3)) fun v H16 e16 ⟨to, hv, hOt⟩ => ?_
        subst hv
        have hT16 : LL3 K H16 to (reachM n rowF) := hOt.ll3
        have hrl : (reachM n rowF).length = (repL n).length := by rw [row_reach h1 h4]; unfold sortMat; rw [List.length_mergeSort]
        refine q_when (b := false) (et_is (et_or (et_test (ev_opR2 (z := .bl false) (ev_var (v := .ref to) rfl) (er_sortedM (er_LL3 (ev_var (v := .ref so) rfl) (hDs3.mono e16)) (fun _ _ _ h => h) (by omega)) fun v G1 G2 g1 g2 ⟨p, hv, _, hp⟩ => by
          subst hv
          rw [hrs] at hp
          exact rv_neMs (hT16.mono (g1.trans g2)) hp)) fun _ => et_test (ev_op (ev_lenLL3 (ev_var (v := .ref to) rfl) hT16) (ev_menu (i := n - 1) (ea_cons ev_c (ea_cons ev_c (ea_cons ev_c (ea_cons ev_c ea_nil)))) (by show 4 ≤ 100000; decide) (fun G1 g1 => ev_cast (ev_op (ev_var (v := .int (n : Int)) rfl) ev_c rv_I0) (by rw [show (n : Int) - 1 = ((n - 1 : Nat) : Int) by omega])) (rep_cnt h1 h4)) (rv_ne rfl))) (by rw [hrl]; simp)) (fun hb => nomatch hb) (fun _ H17 e17 => ?_)
        have e017 := (e0H.trans e16).trans e17
        refine qr_asg (R := fun G1 G2 v => ∃ ls p, v = .ref p ∧ IsCut ((n + 3 : Nat) : Int) ls ∧ OLLI G1 G2 p (Fm ls.length (formF (n + 3) ls))) (fun G1 g1 Q' q' => ?_) fun v H18 e18 ⟨ls, fo, hv, hcut, hOf⟩ => ?_
        · refine ⟨.int ((n + 3 : Nat) : Int), rfl, .ref a, rfl, .int ((n + 3 : Nat) : Int), rfl, a, ns, 2, n + 3, rfl, hL.mono (e017.trans g1), by decide, by omega, by omega, fun ls G2 p g2 hC hO => ?_⟩
          exact ⟨((n + 3 : Nat) : Int), p, ls, rfl, hO.lp, by have := hC.nat_len; omega, fun z => absurd hC z, fun m em hC' G3 s g3 hR => by
            have : m = n + 3 := by omega
            subst this
            exact q' _ G3 (g2.trans g3) ⟨ls, s, rfl, hC, hR.back g2⟩⟩
        subst hv
        have hcl := cut_len hcut
        have hfo := form_okS hcut
        have hrep := cut_rep h4 hcut
        rw [hcl] at hOf hfo
        generalize formF (n + 3) ls = g at *
        have hF18 : LLI K H18 fo (Fm n g) := hOf.lli
        obtain ⟨s, hw, hsm, hls⟩ := row_way h1 h4 hrep
        obtain ⟨hpath, hbs⟩ := ways_path hsm
        have hshort := ways_short hrf hsm
        refine qr_asg (er_callR2 (R := RL (nI s.1)) mon_RL (hrw rfl) (er_copy (K := K) (E := E0) (ev_var (v := .ref fo) rfl) hF18 (by rw [fm_len]; omega)) fun v1 v2 G1 G2 G3 g1 g2 g3 ⟨c1, hc1, hO1⟩ ⟨c2, hc2, hO2⟩ => by
          subst hc1; subst hc2
          exact spr_way (C := T.c_TooMany) hrf h4 h20 (hO1.lli.mono g3) hfo hO2.lli hw) fun v H19 e19 ⟨st, hv, hst0, hst⟩ => ?_
        subst hv
        refine q_when (b := false) (et_is (et_not (et_test (ev_isList (ev_var (v := .ref st) rfl) hst))) rfl) (fun hb => nomatch hb) (fun _ H20 e20 => ?_)
        refine qr_asg (hrw rfl) fun v H21 e21 ⟨h0, hv, hOh⟩ => ?_
        subst hv
        have hst21 := (e20.trans e21) _ _ hst
        have hF21 := hF18.mono ((e19.trans e20).trans e21)
        refine q_forL (xs := (nI s.1).map V.int) (ev_var (v := .ref st) rfl) (sq_of hst21) (fun i σ' H' => ∃ h x15, σ' = [some (.ref a), some (.int (n : Int)), some (.ref d), some (.ref r), some (.int off), some (.int ((n + 3 : Nat) : Int)), some (.ref la), x7, some (.ref so), x9, x10, some (.ref to), some (.ref fo), some (.ref st), some (.ref h), x15, none, none, none] ∧ Ex H21 H' ∧ LLI K H' h (Fm n ((s.1.take i).foldl turnF rowF)))
          (fun H22 e22 => ⟨h0, _, rfl, e22, hOh.lli.mono e22⟩) (fun i σ' H' _ hP => by obtain ⟨_, _, rfl, e, _⟩ := hP; exact sq_of (e _ _ hst21)) (fun i x σ' H22 hx hP => ?_) (fun σ' H22 hP => ?_)
        · obtain ⟨h, x15, rfl, e22, hh⟩ := hP
          unfold nI at hx
          rw [List.map_map, List.getElem?_map] at hx
          cases hbx : s.1[i]? with
          | none => rw [hbx] at hx; cases hx
          | some b =>
            rw [hbx] at hx
            cases hx
            have hil := (List.getElem?_eq_some_iff.mp hbx).1
            have hbn := hbs b (List.mem_of_getElem? hbx)
            have hbits := (path_bits hrf hbs i (by omega)).to (by omega)
            refine sr_asg (er_call mon_RM (R := RM (Fm n (turnF ((s.1.take i).foldl turnF rowF) b))) (ea_cons (ev_var (v := .ref h) rfl) (ea_cons (ev_var (v := .int (b : Int)) rfl) ea_nil)) fun G1 g1 Q' q' E' => ⟨h, n, _, b, bI i, rfl, hh.mono g1, by omega, hbn, hbits, fun G2 p g2 hO => q' _ G2 g2 ⟨p, rfl, hO⟩⟩) fun v H23 e23 ⟨p, hv, hOp⟩ => ?_
            subst hv
            refine ⟨p, _, rfl, e22.trans e23, ?_⟩
            rw [take_fold hbx]
            exact hOp.lli
        · obtain ⟨h, x15, rfl, e22, hh⟩ := hP
          rw [List.length_map, nI_len, List.take_length, ← hpath] at hh
          obtain ⟨ps, hps, hlead⟩ := lead_of hls
          have hsf := lead_form hfo hps hlead
          obtain ⟨qs, hal, _⟩ := alikeV_some hps hlead
          refine s_ret (v := .bl true) (ev_opR1 (z := .bl true) (er_call mon_RNew (R := RNew (alikeV n n s.2 g)) (ea_cons (ev_var (v := .ref h) rfl) (ea_cons (ev_var (v := .ref fo) rfl) ea_nil)) fun G1 g1 Q' q' E' => ⟨h, fo, n, n, s.2, g, rfl, hh.mono g1, (hF21.mono e22).mono g1, hsf, hfo, fun v G2 g2 hv => q' v G2 g2 hv⟩) ev_c fun v G1 G2 g1 g2 hv => by
            rw [hal] at hv
            obtain ⟨p, rfl, _⟩ := hv
            exact rv_val (z := .bl true) fun G3 _ Q' q' => ⟨rfl, by
              have : (!decide (V.ref p = V.non)) = true := by simp
              rw [this]
              exact q'⟩) fun H23 e23 => q H23
end
section
variable {P : Program} {w : World} {K : Frag} {mg : Str → Option Value} {base : Heap}
abbrev LEVEL : Nat := 16
theorem law_ok (T : Txt K mg) : FnOk P w K mg base CX0 LEVEL T.f_law T.d_law ["script"] (sp_law K) := by
  have g1 := ok_is_form (P := P) (w := w) (base := base) (k := 0) T
  have g2 := ok_must_form T g1
  have g3 := ok_must_be_few T g2
  have h1 := ok_all_names (P := P) (w := w) (base := base) (k := 2) T
  have h2 := ok_renamed_by (P := P) (w := w) (base := base) (k := 2) T
  have h3 := ok_least_by T h1 h2
  have h4 := ok_key_of T h3
  have t1 := ok_through (P := P) (w := w) (base := base) (k := 3) T
  have t2 := ok_turned_by T t1
  have h5 := ok_ways_from (k := 5) T (g3.mono (by decide)) h4 t2
  have h6 := ok_reach T h5
  have h7 := ok_way T (g2.mono (by decide)) h5 (h4.mono (by decide))
  have f9 := ok_least (k := 4) T (g3.mono (by decide)) h3
  have l1 := ok__law_cell (P := P) (w := w) (base := base) (k := 0) T
  have l3 := ok__law_copy (P := P) (w := w) (base := base) (k := 0) T
  have l4 := ok__law_like (P := P) (w := w) (base := base) (k := 0) T
  have l8 := ok__law_turn (P := P) (w := w) (base := base) (k := 2) T
  have a3 := ok_goes_on (P := P) (w := w) (base := base) (k := 0) T
  have a4 := first_any T a3
  have a5 := ok_alike (k := 8) T (g2.mono (by decide)) (a4.mono (by decide))
  have c1 := ok_line_right (P := P) (w := w) (base := base) (k := 0) T
  have c2 := ok_crossing (P := P) (w := w) (base := base) (k := 0) T
  have c3 := ok_is_cut T c1 c2
  have c4 := ok_must_cut T c3
  have c5 := ok_is_side (P := P) (w := w) (base := base) (k := 0) T
  have c6 := ok_triangles T c5
  have c7 := ok_form_by T c6
  have c8 := ok_form_of (k := 3) T c4 c7
  have d1 := ok__law_line (P := P) (w := w) (base := base) (k := 0) T
  have d2 := ok__law_cross (P := P) (w := w) (base := base) (k := 0) T
  have d3 := ok__law_cut T l1
  have d4 := ok__law_all T d2
  have r1 := ok_row (P := P) (w := w) (base := base) (k := 0) T
  have l11 := ok__law_which (P := P) (w := w) (base := base) (k := 0) T
  have r2 := ok__law_refused15 T r1 l11
  exact (ok_law (k := 10) T (l1.mono (by decide)) (r1.mono (by decide)) (l4.mono (by decide)) (r2.mono (by decide)) (d1.mono (by decide)) (d4.mono (by decide)) (f9.mono (by decide)) (c8.mono (by decide)) (h6.mono (by decide)) (d3.mono (by decide)) (h7.mono (by decide)) (l3.mono (by decide)) (l8.mono (by decide)) (a5.mono (by decide))).mono (by decide)
end
end AT

/-! ### what the top has written; the end -/
namespace AT
open PySem PySem.Spec PyProof.Rows L2 Evl
theorem all_mk {l : PySem.W.OpenLaw} {w : World} {K : Frag} {h : Heap} {mg : Str → Option Value} {fa : Addr} (X : K.In h) (G : h.Ns mainGlobals mg) (hfa : mg "law" = some (.ref fa))
    {f_line_right : Addr} {od_line_right an_line_right : Option Addr} {sl_line_right : Array (Option Value)} {oc_line_right kV_line_right dc_line_right pm_line_right cd_line_right ct_line_right : Value}
    {f_crossing : Addr} {od_crossing an_crossing : Option Addr} {sl_crossing : Array (Option Value)} {oc_crossing kV_crossing dc_crossing pm_crossing cd_crossing ct_crossing : Value}
    {f_is_cut : Addr} {od_is_cut an_is_cut : Option Addr} {sl_is_cut : Array (Option Value)} {oc_is_cut kV_is_cut dc_is_cut pm_is_cut cd_is_cut ct_is_cut : Value}
    {f_must_cut : Addr} {od_must_cut an_must_cut : Option Addr} {sl_must_cut : Array (Option Value)} {oc_must_cut kV_must_cut dc_must_cut pm_must_cut cd_must_cut ct_must_cut : Value}
    {f_is_side : Addr} {od_is_side an_is_side : Option Addr} {sl_is_side : Array (Option Value)} {oc_is_side kV_is_side dc_is_side pm_is_side cd_is_side ct_is_side : Value}
    {f_triangles : Addr} {od_triangles an_triangles : Option Addr} {sl_triangles : Array (Option Value)} {oc_triangles kV_triangles dc_triangles pm_triangles cd_triangles ct_triangles : Value}
    {f_form_by : Addr} {od_form_by an_form_by : Option Addr} {sl_form_by : Array (Option Value)} {oc_form_by kV_form_by dc_form_by pm_form_by cd_form_by ct_form_by : Value}
    {f_form_of : Addr} {od_form_of an_form_of : Option Addr} {sl_form_of : Array (Option Value)} {oc_form_of kV_form_of dc_form_of pm_form_of cd_form_of ct_form_of : Value}
    {f_row : Addr} {od_row an_row : Option Addr} {sl_row : Array (Option Value)} {oc_row kV_row dc_row pm_row cd_row ct_row : Value}
    {f_is_form : Addr} {od_is_form an_is_form : Option Addr} {sl_is_form : Array (Option Value)} {oc_is_form kV_is_form dc_is_form pm_is_form cd_is_form ct_is_form : Value}
    {f_must_form : Addr} {od_must_form an_must_form : Option Addr} {sl_must_form : Array (Option Value)} {oc_must_form kV_must_form dc_must_form pm_must_form cd_must_form ct_must_form : Value}
    {f_through : Addr} {od_through an_through : Option Addr} {sl_through : Array (Option Value)} {oc_through kV_through dc_through pm_through cd_through ct_through : Value}
    {f_turned_by : Addr} {od_turned_by an_turned_by : Option Addr} {sl_turned_by : Array (Option Value)} {oc_turned_by kV_turned_by dc_turned_by pm_turned_by cd_turned_by ct_turned_by : Value}
    {f_renamed_by : Addr} {od_renamed_by an_renamed_by : Option Addr} {sl_renamed_by : Array (Option Value)} {oc_renamed_by kV_renamed_by dc_renamed_by pm_renamed_by cd_renamed_by ct_renamed_by : Value}
    {f_goes_on : Addr} {od_goes_on an_goes_on : Option Addr} {sl_goes_on : Array (Option Value)} {oc_goes_on kV_goes_on dc_goes_on pm_goes_on cd_goes_on ct_goes_on : Value}
    {f_first_names : Addr} {od_first_names an_first_names : Option Addr} {sl_first_names : Array (Option Value)} {oc_first_names kV_first_names dc_first_names pm_first_names cd_first_names ct_first_names : Value}
    {f_alike : Addr} {od_alike an_alike : Option Addr} {sl_alike : Array (Option Value)} {oc_alike kV_alike dc_alike pm_alike cd_alike ct_alike : Value}
    {f_all_names : Addr} {od_all_names an_all_names : Option Addr} {sl_all_names : Array (Option Value)} {oc_all_names kV_all_names dc_all_names pm_all_names cd_all_names ct_all_names : Value}
    {f_least_by : Addr} {od_least_by an_least_by : Option Addr} {sl_least_by : Array (Option Value)} {oc_least_by kV_least_by dc_least_by pm_least_by cd_least_by ct_least_by : Value}
    {f_must_be_few : Addr} {od_must_be_few an_must_be_few : Option Addr} {sl_must_be_few : Array (Option Value)} {oc_must_be_few kV_must_be_few dc_must_be_few pm_must_be_few cd_must_be_few ct_must_be_few : Value}
    {f_least : Addr} {od_least an_least : Option Addr} {sl_least : Array (Option Value)} {oc_least kV_least dc_least pm_least cd_least ct_least : Value}
    {f_key_of : Addr} {od_key_of an_key_of : Option Addr} {sl_key_of : Array (Option Value)} {oc_key_of kV_key_of dc_key_of pm_key_of cd_key_of ct_key_of : Value}
    {f_ways_from : Addr} {od_ways_from an_ways_from : Option Addr} {sl_ways_from : Array (Option Value)} {oc_ways_from kV_ways_from dc_ways_from pm_ways_from cd_ways_from ct_ways_from : Value}
    {f_reach : Addr} {od_reach an_reach : Option Addr} {sl_reach : Array (Option Value)} {oc_reach kV_reach dc_reach pm_reach cd_reach ct_reach : Value}
    {f_way : Addr} {od_way an_way : Option Addr} {sl_way : Array (Option Value)} {oc_way kV_way dc_way pm_way cd_way ct_way : Value}
    {f__law_cell : Addr} {od__law_cell an__law_cell : Option Addr} {sl__law_cell : Array (Option Value)} {oc__law_cell kV__law_cell dc__law_cell pm__law_cell cd__law_cell ct__law_cell : Value}
    {f__law_copy : Addr} {od__law_copy an__law_copy : Option Addr} {sl__law_copy : Array (Option Value)} {oc__law_copy kV__law_copy dc__law_copy pm__law_copy cd__law_copy ct__law_copy : Value}
    {f__law_like : Addr} {od__law_like an__law_like : Option Addr} {sl__law_like : Array (Option Value)} {oc__law_like kV__law_like dc__law_like pm__law_like cd__law_like ct__law_like : Value}
    {f__law_turn : Addr} {od__law_turn an__law_turn : Option Addr} {sl__law_turn : Array (Option Value)} {oc__law_turn kV__law_turn dc__law_turn pm__law_turn cd__law_turn ct__law_turn : Value}
    {f__law_line : Addr} {od__law_line an__law_line : Option Addr} {sl__law_line : Array (Option Value)} {oc__law_line kV__law_line dc__law_line pm__law_line cd__law_line ct__law_line : Value}
    {f__law_cross : Addr} {od__law_cross an__law_cross : Option Addr} {sl__law_cross : Array (Option Value)} {oc__law_cross kV__law_cross dc__law_cross pm__law_cross cd__law_cross ct__law_cross : Value}
    {f__law_cut : Addr} {od__law_cut an__law_cut : Option Addr} {sl__law_cut : Array (Option Value)} {oc__law_cut kV__law_cut dc__law_cut pm__law_cut cd__law_cut ct__law_cut : Value}
    {f__law_which : Addr} {od__law_which an__law_which : Option Addr} {sl__law_which : Array (Option Value)} {oc__law_which kV__law_which dc__law_which pm__law_which cd__law_which ct__law_which : Value}
    {f__law_all : Addr} {od__law_all an__law_all : Option Addr} {sl__law_all : Array (Option Value)} {oc__law_all kV__law_all dc__law_all pm__law_all cd__law_all ct__law_all : Value}
    {f__law_refused : Addr} {od__law_refused an__law_refused : Option Addr} {sl__law_refused : Array (Option Value)} {oc__law_refused kV__law_refused dc__law_refused pm__law_refused cd__law_refused ct__law_refused : Value}
    {f_law : Addr} {od_law an_law : Option Addr} {sl_law : Array (Option Value)} {oc_law kV_law dc_law pm_law cd_law ct_law : Value}
    {t_MOST_CORNERS : Tok}
    {t_MOST_BOXES : Tok}
    {t_MOST_ARROWS : Tok}
    {t_MOST_NAMED : Tok}
    {t_MOST_FORMS : Tok}
    {c_TurnError : Addr}
    {c_NoForm : Addr}
    {c_NoBox : Addr}
    {c_NoNames : Addr}
    {c_NoCut : Addr}
    {c_TooMany : Addr}
    (a_line_right : PySem.W.nsIn K mainGlobals "line_right" = some (some (.ref f_line_right))) (l_line_right : K.lookup f_line_right = some ⟨oc_line_right, od_line_right, .func (PySem.W.fnOf "line_right" "line_right" (defArgs s_line_right) (defBody s_line_right) (defScope s_line_right) .none kV_line_right dc_line_right pm_line_right an_line_right cd_line_right ct_line_right), sl_line_right⟩) (c_line_right : PySem.W.codeIn K cd_line_right "line_right" = true) (k_line_right : PySem.W.keepIn K (.ref f_line_right) = true)
    (a_crossing : PySem.W.nsIn K mainGlobals "crossing" = some (some (.ref f_crossing))) (l_crossing : K.lookup f_crossing = some ⟨oc_crossing, od_crossing, .func (PySem.W.fnOf "crossing" "crossing" (defArgs s_crossing) (defBody s_crossing) (defScope s_crossing) .none kV_crossing dc_crossing pm_crossing an_crossing cd_crossing ct_crossing), sl_crossing⟩) (c_crossing : PySem.W.codeIn K cd_crossing "crossing" = true) (k_crossing : PySem.W.keepIn K (.ref f_crossing) = true)
    (a_is_cut : PySem.W.nsIn K mainGlobals "is_cut" = some (some (.ref f_is_cut))) (l_is_cut : K.lookup f_is_cut = some ⟨oc_is_cut, od_is_cut, .func (PySem.W.fnOf "is_cut" "is_cut" (defArgs s_is_cut) (defBody s_is_cut) (defScope s_is_cut) .none kV_is_cut dc_is_cut pm_is_cut an_is_cut cd_is_cut ct_is_cut), sl_is_cut⟩) (c_is_cut : PySem.W.codeIn K cd_is_cut "is_cut" = true) (k_is_cut : PySem.W.keepIn K (.ref f_is_cut) = true)
    (a_must_cut : PySem.W.nsIn K mainGlobals "must_cut" = some (some (.ref f_must_cut))) (l_must_cut : K.lookup f_must_cut = some ⟨oc_must_cut, od_must_cut, .func (PySem.W.fnOf "must_cut" "must_cut" (defArgs s_must_cut) (defBody s_must_cut) (defScope s_must_cut) .none kV_must_cut dc_must_cut pm_must_cut an_must_cut cd_must_cut ct_must_cut), sl_must_cut⟩) (c_must_cut : PySem.W.codeIn K cd_must_cut "must_cut" = true) (k_must_cut : PySem.W.keepIn K (.ref f_must_cut) = true)
    (a_is_side : PySem.W.nsIn K mainGlobals "is_side" = some (some (.ref f_is_side))) (l_is_side : K.lookup f_is_side = some ⟨oc_is_side, od_is_side, .func (PySem.W.fnOf "is_side" "is_side" (defArgs s_is_side) (defBody s_is_side) (defScope s_is_side) .none kV_is_side dc_is_side pm_is_side an_is_side cd_is_side ct_is_side), sl_is_side⟩) (c_is_side : PySem.W.codeIn K cd_is_side "is_side" = true) (k_is_side : PySem.W.keepIn K (.ref f_is_side) = true)
    (a_triangles : PySem.W.nsIn K mainGlobals "triangles" = some (some (.ref f_triangles))) (l_triangles : K.lookup f_triangles = some ⟨oc_triangles, od_triangles, .func (PySem.W.fnOf "triangles" "triangles" (defArgs s_triangles) (defBody s_triangles) (defScope s_triangles) .none kV_triangles dc_triangles pm_triangles an_triangles cd_triangles ct_triangles), sl_triangles⟩) (c_triangles : PySem.W.codeIn K cd_triangles "triangles" = true) (k_triangles : PySem.W.keepIn K (.ref f_triangles) = true)
    (a_form_by : PySem.W.nsIn K mainGlobals "form_by" = some (some (.ref f_form_by))) (l_form_by : K.lookup f_form_by = some ⟨oc_form_by, od_form_by, .func (PySem.W.fnOf "form_by" "form_by" (defArgs s_form_by) (defBody s_form_by) (defScope s_form_by) .none kV_form_by dc_form_by pm_form_by an_form_by cd_form_by ct_form_by), sl_form_by⟩) (c_form_by : PySem.W.codeIn K cd_form_by "form_by" = true) (k_form_by : PySem.W.keepIn K (.ref f_form_by) = true)
    (a_form_of : PySem.W.nsIn K mainGlobals "form_of" = some (some (.ref f_form_of))) (l_form_of : K.lookup f_form_of = some ⟨oc_form_of, od_form_of, .func (PySem.W.fnOf "form_of" "form_of" (defArgs s_form_of) (defBody s_form_of) (defScope s_form_of) .none kV_form_of dc_form_of pm_form_of an_form_of cd_form_of ct_form_of), sl_form_of⟩) (c_form_of : PySem.W.codeIn K cd_form_of "form_of" = true) (k_form_of : PySem.W.keepIn K (.ref f_form_of) = true)
    (a_row : PySem.W.nsIn K mainGlobals "row" = some (some (.ref f_row))) (l_row : K.lookup f_row = some ⟨oc_row, od_row, .func (PySem.W.fnOf "row" "row" (defArgs s_row) (defBody s_row) (defScope s_row) .none kV_row dc_row pm_row an_row cd_row ct_row), sl_row⟩) (c_row : PySem.W.codeIn K cd_row "row" = true) (k_row : PySem.W.keepIn K (.ref f_row) = true)
    (a_is_form : PySem.W.nsIn K mainGlobals "is_form" = some (some (.ref f_is_form))) (l_is_form : K.lookup f_is_form = some ⟨oc_is_form, od_is_form, .func (PySem.W.fnOf "is_form" "is_form" (defArgs s_is_form) (defBody s_is_form) (defScope s_is_form) .none kV_is_form dc_is_form pm_is_form an_is_form cd_is_form ct_is_form), sl_is_form⟩) (c_is_form : PySem.W.codeIn K cd_is_form "is_form" = true) (k_is_form : PySem.W.keepIn K (.ref f_is_form) = true)
    (a_must_form : PySem.W.nsIn K mainGlobals "must_form" = some (some (.ref f_must_form))) (l_must_form : K.lookup f_must_form = some ⟨oc_must_form, od_must_form, .func (PySem.W.fnOf "must_form" "must_form" (defArgs s_must_form) (defBody s_must_form) (defScope s_must_form) .none kV_must_form dc_must_form pm_must_form an_must_form cd_must_form ct_must_form), sl_must_form⟩) (c_must_form : PySem.W.codeIn K cd_must_form "must_form" = true) (k_must_form : PySem.W.keepIn K (.ref f_must_form) = true)
    (a_through : PySem.W.nsIn K mainGlobals "through" = some (some (.ref f_through))) (l_through : K.lookup f_through = some ⟨oc_through, od_through, .func (PySem.W.fnOf "through" "through" (defArgs s_through) (defBody s_through) (defScope s_through) .none kV_through dc_through pm_through an_through cd_through ct_through), sl_through⟩) (c_through : PySem.W.codeIn K cd_through "through" = true) (k_through : PySem.W.keepIn K (.ref f_through) = true)
    (a_turned_by : PySem.W.nsIn K mainGlobals "turned_by" = some (some (.ref f_turned_by))) (l_turned_by : K.lookup f_turned_by = some ⟨oc_turned_by, od_turned_by, .func (PySem.W.fnOf "turned_by" "turned_by" (defArgs s_turned_by) (defBody s_turned_by) (defScope s_turned_by) .none kV_turned_by dc_turned_by pm_turned_by an_turned_by cd_turned_by ct_turned_by), sl_turned_by⟩) (c_turned_by : PySem.W.codeIn K cd_turned_by "turned_by" = true) (k_turned_by : PySem.W.keepIn K (.ref f_turned_by) = true)
    (a_renamed_by : PySem.W.nsIn K mainGlobals "renamed_by" = some (some (.ref f_renamed_by))) (l_renamed_by : K.lookup f_renamed_by = some ⟨oc_renamed_by, od_renamed_by, .func (PySem.W.fnOf "renamed_by" "renamed_by" (defArgs s_renamed_by) (defBody s_renamed_by) (defScope s_renamed_by) .none kV_renamed_by dc_renamed_by pm_renamed_by an_renamed_by cd_renamed_by ct_renamed_by), sl_renamed_by⟩) (c_renamed_by : PySem.W.codeIn K cd_renamed_by "renamed_by" = true) (k_renamed_by : PySem.W.keepIn K (.ref f_renamed_by) = true)
    (a_goes_on : PySem.W.nsIn K mainGlobals "goes_on" = some (some (.ref f_goes_on))) (l_goes_on : K.lookup f_goes_on = some ⟨oc_goes_on, od_goes_on, .func (PySem.W.fnOf "goes_on" "goes_on" (defArgs s_goes_on) (defBody s_goes_on) (defScope s_goes_on) .none kV_goes_on dc_goes_on pm_goes_on an_goes_on cd_goes_on ct_goes_on), sl_goes_on⟩) (c_goes_on : PySem.W.codeIn K cd_goes_on "goes_on" = true) (k_goes_on : PySem.W.keepIn K (.ref f_goes_on) = true)
    (a_first_names : PySem.W.nsIn K mainGlobals "first_names" = some (some (.ref f_first_names))) (l_first_names : K.lookup f_first_names = some ⟨oc_first_names, od_first_names, .func (PySem.W.fnOf "first_names" "first_names" (defArgs s_first_names) (defBody s_first_names) (defScope s_first_names) .none kV_first_names dc_first_names pm_first_names an_first_names cd_first_names ct_first_names), sl_first_names⟩) (c_first_names : PySem.W.codeIn K cd_first_names "first_names" = true) (k_first_names : PySem.W.keepIn K (.ref f_first_names) = true)
    (a_alike : PySem.W.nsIn K mainGlobals "alike" = some (some (.ref f_alike))) (l_alike : K.lookup f_alike = some ⟨oc_alike, od_alike, .func (PySem.W.fnOf "alike" "alike" (defArgs s_alike) (defBody s_alike) (defScope s_alike) .none kV_alike dc_alike pm_alike an_alike cd_alike ct_alike), sl_alike⟩) (c_alike : PySem.W.codeIn K cd_alike "alike" = true) (k_alike : PySem.W.keepIn K (.ref f_alike) = true)
    (a_all_names : PySem.W.nsIn K mainGlobals "all_names" = some (some (.ref f_all_names))) (l_all_names : K.lookup f_all_names = some ⟨oc_all_names, od_all_names, .func (PySem.W.fnOf "all_names" "all_names" (defArgs s_all_names) (defBody s_all_names) (defScope s_all_names) .none kV_all_names dc_all_names pm_all_names an_all_names cd_all_names ct_all_names), sl_all_names⟩) (c_all_names : PySem.W.codeIn K cd_all_names "all_names" = true) (k_all_names : PySem.W.keepIn K (.ref f_all_names) = true)
    (a_least_by : PySem.W.nsIn K mainGlobals "least_by" = some (some (.ref f_least_by))) (l_least_by : K.lookup f_least_by = some ⟨oc_least_by, od_least_by, .func (PySem.W.fnOf "least_by" "least_by" (defArgs s_least_by) (defBody s_least_by) (defScope s_least_by) .none kV_least_by dc_least_by pm_least_by an_least_by cd_least_by ct_least_by), sl_least_by⟩) (c_least_by : PySem.W.codeIn K cd_least_by "least_by" = true) (k_least_by : PySem.W.keepIn K (.ref f_least_by) = true)
    (a_must_be_few : PySem.W.nsIn K mainGlobals "must_be_few" = some (some (.ref f_must_be_few))) (l_must_be_few : K.lookup f_must_be_few = some ⟨oc_must_be_few, od_must_be_few, .func (PySem.W.fnOf "must_be_few" "must_be_few" (defArgs s_must_be_few) (defBody s_must_be_few) (defScope s_must_be_few) .none kV_must_be_few dc_must_be_few pm_must_be_few an_must_be_few cd_must_be_few ct_must_be_few), sl_must_be_few⟩) (c_must_be_few : PySem.W.codeIn K cd_must_be_few "must_be_few" = true) (k_must_be_few : PySem.W.keepIn K (.ref f_must_be_few) = true)
    (a_least : PySem.W.nsIn K mainGlobals "least" = some (some (.ref f_least))) (l_least : K.lookup f_least = some ⟨oc_least, od_least, .func (PySem.W.fnOf "least" "least" (defArgs s_least) (defBody s_least) (defScope s_least) .none kV_least dc_least pm_least an_least cd_least ct_least), sl_least⟩) (c_least : PySem.W.codeIn K cd_least "least" = true) (k_least : PySem.W.keepIn K (.ref f_least) = true)
    (a_key_of : PySem.W.nsIn K mainGlobals "key_of" = some (some (.ref f_key_of))) (l_key_of : K.lookup f_key_of = some ⟨oc_key_of, od_key_of, .func (PySem.W.fnOf "key_of" "key_of" (defArgs s_key_of) (defBody s_key_of) (defScope s_key_of) .none kV_key_of dc_key_of pm_key_of an_key_of cd_key_of ct_key_of), sl_key_of⟩) (c_key_of : PySem.W.codeIn K cd_key_of "key_of" = true) (k_key_of : PySem.W.keepIn K (.ref f_key_of) = true)
    (a_ways_from : PySem.W.nsIn K mainGlobals "ways_from" = some (some (.ref f_ways_from))) (l_ways_from : K.lookup f_ways_from = some ⟨oc_ways_from, od_ways_from, .func (PySem.W.fnOf "ways_from" "ways_from" (defArgs s_ways_from) (defBody s_ways_from) (defScope s_ways_from) .none kV_ways_from dc_ways_from pm_ways_from an_ways_from cd_ways_from ct_ways_from), sl_ways_from⟩) (c_ways_from : PySem.W.codeIn K cd_ways_from "ways_from" = true) (k_ways_from : PySem.W.keepIn K (.ref f_ways_from) = true)
    (a_reach : PySem.W.nsIn K mainGlobals "reach" = some (some (.ref f_reach))) (l_reach : K.lookup f_reach = some ⟨oc_reach, od_reach, .func (PySem.W.fnOf "reach" "reach" (defArgs s_reach) (defBody s_reach) (defScope s_reach) .none kV_reach dc_reach pm_reach an_reach cd_reach ct_reach), sl_reach⟩) (c_reach : PySem.W.codeIn K cd_reach "reach" = true) (k_reach : PySem.W.keepIn K (.ref f_reach) = true)
    (a_way : PySem.W.nsIn K mainGlobals "way" = some (some (.ref f_way))) (l_way : K.lookup f_way = some ⟨oc_way, od_way, .func (PySem.W.fnOf "way" "way" (defArgs s_way) (defBody s_way) (defScope s_way) .none kV_way dc_way pm_way an_way cd_way ct_way), sl_way⟩) (c_way : PySem.W.codeIn K cd_way "way" = true) (k_way : PySem.W.keepIn K (.ref f_way) = true)
    (a__law_cell : PySem.W.nsIn K mainGlobals "_law_cell" = some (some (.ref f__law_cell))) (l__law_cell : K.lookup f__law_cell = some ⟨oc__law_cell, od__law_cell, .func (PySem.W.fnOf "_law_cell" "_law_cell" (defArgs s__law_cell) (defBody s__law_cell) (defScope s__law_cell) .none kV__law_cell dc__law_cell pm__law_cell an__law_cell cd__law_cell ct__law_cell), sl__law_cell⟩) (c__law_cell : PySem.W.codeIn K cd__law_cell "_law_cell" = true) (k__law_cell : PySem.W.keepIn K (.ref f__law_cell) = true)
    (a__law_copy : PySem.W.nsIn K mainGlobals "_law_copy" = some (some (.ref f__law_copy))) (l__law_copy : K.lookup f__law_copy = some ⟨oc__law_copy, od__law_copy, .func (PySem.W.fnOf "_law_copy" "_law_copy" (defArgs s__law_copy) (defBody s__law_copy) (defScope s__law_copy) .none kV__law_copy dc__law_copy pm__law_copy an__law_copy cd__law_copy ct__law_copy), sl__law_copy⟩) (c__law_copy : PySem.W.codeIn K cd__law_copy "_law_copy" = true) (k__law_copy : PySem.W.keepIn K (.ref f__law_copy) = true)
    (a__law_like : PySem.W.nsIn K mainGlobals "_law_like" = some (some (.ref f__law_like))) (l__law_like : K.lookup f__law_like = some ⟨oc__law_like, od__law_like, .func (PySem.W.fnOf "_law_like" "_law_like" (defArgs s__law_like) (defBody s__law_like) (defScope s__law_like) .none kV__law_like dc__law_like pm__law_like an__law_like cd__law_like ct__law_like), sl__law_like⟩) (c__law_like : PySem.W.codeIn K cd__law_like "_law_like" = true) (k__law_like : PySem.W.keepIn K (.ref f__law_like) = true)
    (a__law_turn : PySem.W.nsIn K mainGlobals "_law_turn" = some (some (.ref f__law_turn))) (l__law_turn : K.lookup f__law_turn = some ⟨oc__law_turn, od__law_turn, .func (PySem.W.fnOf "_law_turn" "_law_turn" (defArgs s__law_turn) (defBody s__law_turn) (defScope s__law_turn) .none kV__law_turn dc__law_turn pm__law_turn an__law_turn cd__law_turn ct__law_turn), sl__law_turn⟩) (c__law_turn : PySem.W.codeIn K cd__law_turn "_law_turn" = true) (k__law_turn : PySem.W.keepIn K (.ref f__law_turn) = true)
    (a__law_line : PySem.W.nsIn K mainGlobals "_law_line" = some (some (.ref f__law_line))) (l__law_line : K.lookup f__law_line = some ⟨oc__law_line, od__law_line, .func (PySem.W.fnOf "_law_line" "_law_line" (defArgs s__law_line) (defBody s__law_line) (defScope s__law_line) .none kV__law_line dc__law_line pm__law_line an__law_line cd__law_line ct__law_line), sl__law_line⟩) (c__law_line : PySem.W.codeIn K cd__law_line "_law_line" = true) (k__law_line : PySem.W.keepIn K (.ref f__law_line) = true)
    (a__law_cross : PySem.W.nsIn K mainGlobals "_law_cross" = some (some (.ref f__law_cross))) (l__law_cross : K.lookup f__law_cross = some ⟨oc__law_cross, od__law_cross, .func (PySem.W.fnOf "_law_cross" "_law_cross" (defArgs s__law_cross) (defBody s__law_cross) (defScope s__law_cross) .none kV__law_cross dc__law_cross pm__law_cross an__law_cross cd__law_cross ct__law_cross), sl__law_cross⟩) (c__law_cross : PySem.W.codeIn K cd__law_cross "_law_cross" = true) (k__law_cross : PySem.W.keepIn K (.ref f__law_cross) = true)
    (a__law_cut : PySem.W.nsIn K mainGlobals "_law_cut" = some (some (.ref f__law_cut))) (l__law_cut : K.lookup f__law_cut = some ⟨oc__law_cut, od__law_cut, .func (PySem.W.fnOf "_law_cut" "_law_cut" (defArgs s__law_cut) (defBody s__law_cut) (defScope s__law_cut) .none kV__law_cut dc__law_cut pm__law_cut an__law_cut cd__law_cut ct__law_cut), sl__law_cut⟩) (c__law_cut : PySem.W.codeIn K cd__law_cut "_law_cut" = true) (k__law_cut : PySem.W.keepIn K (.ref f__law_cut) = true)
    (a__law_which : PySem.W.nsIn K mainGlobals "_law_which" = some (some (.ref f__law_which))) (l__law_which : K.lookup f__law_which = some ⟨oc__law_which, od__law_which, .func (PySem.W.fnOf "_law_which" "_law_which" (defArgs s__law_which) (defBody s__law_which) (defScope s__law_which) .none kV__law_which dc__law_which pm__law_which an__law_which cd__law_which ct__law_which), sl__law_which⟩) (c__law_which : PySem.W.codeIn K cd__law_which "_law_which" = true) (k__law_which : PySem.W.keepIn K (.ref f__law_which) = true)
    (a__law_all : PySem.W.nsIn K mainGlobals "_law_all" = some (some (.ref f__law_all))) (l__law_all : K.lookup f__law_all = some ⟨oc__law_all, od__law_all, .func (PySem.W.fnOf "_law_all" "_law_all" (defArgs s__law_all) (defBody s__law_all) (defScope s__law_all) .none kV__law_all dc__law_all pm__law_all an__law_all cd__law_all ct__law_all), sl__law_all⟩) (c__law_all : PySem.W.codeIn K cd__law_all "_law_all" = true) (k__law_all : PySem.W.keepIn K (.ref f__law_all) = true)
    (a__law_refused : PySem.W.nsIn K mainGlobals "_law_refused" = some (some (.ref f__law_refused))) (l__law_refused : K.lookup f__law_refused = some ⟨oc__law_refused, od__law_refused, .func (PySem.W.fnOf "_law_refused" "_law_refused" (defArgs s__law_refused) (defBody s__law_refused) (defScope s__law_refused) .none kV__law_refused dc__law_refused pm__law_refused an__law_refused cd__law_refused ct__law_refused), sl__law_refused⟩) (c__law_refused : PySem.W.codeIn K cd__law_refused "_law_refused" = true) (k__law_refused : PySem.W.keepIn K (.ref f__law_refused) = true)
    (a_law : PySem.W.nsIn K mainGlobals "law" = some (some (.ref f_law))) (l_law : K.lookup f_law = some ⟨oc_law, od_law, .func (PySem.W.fnOf "law" "law" (defArgs s_law) (defBody s_law) (defScope s_law) .none kV_law dc_law pm_law an_law cd_law ct_law), sl_law⟩) (c_law : PySem.W.codeIn K cd_law "law" = true) (k_law : PySem.W.keepIn K (.ref f_law) = true)
    (m_MOST_CORNERS : PySem.W.nsIn K mainGlobals "MOST_CORNERS" = some (some (.int 9 t_MOST_CORNERS)))
    (m_MOST_BOXES : PySem.W.nsIn K mainGlobals "MOST_BOXES" = some (some (.int 6 t_MOST_BOXES)))
    (m_MOST_ARROWS : PySem.W.nsIn K mainGlobals "MOST_ARROWS" = some (some (.int 99 t_MOST_ARROWS)))
    (m_MOST_NAMED : PySem.W.nsIn K mainGlobals "MOST_NAMED" = some (some (.int 4 t_MOST_NAMED)))
    (m_MOST_FORMS : PySem.W.nsIn K mainGlobals "MOST_FORMS" = some (some (.int 20 t_MOST_FORMS)))
    (g_TurnError : PySem.W.nsIn K mainGlobals "TurnError" = some (some (.ref c_TurnError)))
    (xxn_TurnError : PySem.W.excIn K c_TurnError [.type "ValueError", .type "Exception", .type "BaseException", .type "object"] "ValueError.__new__" = true)
    (xkp_TurnError : PySem.W.keepIn K (.ref c_TurnError) = true)
    (xbs_TurnError : PySem.W.subIn K (.ref c_TurnError) (.type "BaseException") = some true)
    (xty_TurnError : PySem.W.typeIn K (.ref c_TurnError) = some (.type "type"))
    (xic_TurnError : PySem.W.isClsIn K c_TurnError = true)
    (xhg_TurnError : PySem.W.findIn K (.ref c_TurnError) "__getattribute__" = some (some (.builtin "BaseException.__getattribute__")))
    (xhk_TurnError : PySem.W.findIn K (.ref c_TurnError) "__getattr__" = some none)
    (xhd_TurnError : PySem.W.hasDictIn K c_TurnError = true)
    (xha_TurnError : PySem.W.findIn K (.ref c_TurnError) "__class__" = some (some (.builtin "object.__class__")))
    (xhn_TurnError : PySem.W.specialIn K (.builtin "object.__class__") "__get__" = some (some (.builtin "getset_descriptor.__get__")))
    (xht_TurnError : PySem.W.takesIn K (.builtin "object.__class__") = some true)
    (xhm_TurnError : PySem.W.mroIn K c_TurnError (.type "object") = some true)
    (xvs_TurnError : PySem.W.subIn K (.ref c_TurnError) (.type "ValueError") = some true)
    (g_NoForm : PySem.W.nsIn K mainGlobals "NoForm" = some (some (.ref c_NoForm)))
    (xxn_NoForm : PySem.W.excIn K c_NoForm [.type "ValueError", .type "Exception", .type "BaseException", .type "object"] "ValueError.__new__" = true)
    (xkp_NoForm : PySem.W.keepIn K (.ref c_NoForm) = true)
    (xbs_NoForm : PySem.W.subIn K (.ref c_NoForm) (.type "BaseException") = some true)
    (xty_NoForm : PySem.W.typeIn K (.ref c_NoForm) = some (.type "type"))
    (xic_NoForm : PySem.W.isClsIn K c_NoForm = true)
    (xhg_NoForm : PySem.W.findIn K (.ref c_NoForm) "__getattribute__" = some (some (.builtin "BaseException.__getattribute__")))
    (xhk_NoForm : PySem.W.findIn K (.ref c_NoForm) "__getattr__" = some none)
    (xhd_NoForm : PySem.W.hasDictIn K c_NoForm = true)
    (xha_NoForm : PySem.W.findIn K (.ref c_NoForm) "__class__" = some (some (.builtin "object.__class__")))
    (xhn_NoForm : PySem.W.specialIn K (.builtin "object.__class__") "__get__" = some (some (.builtin "getset_descriptor.__get__")))
    (xht_NoForm : PySem.W.takesIn K (.builtin "object.__class__") = some true)
    (xhm_NoForm : PySem.W.mroIn K c_NoForm (.type "object") = some true)
    (xvs_NoForm : PySem.W.subIn K (.ref c_NoForm) (.type "ValueError") = some true)
    (g_NoBox : PySem.W.nsIn K mainGlobals "NoBox" = some (some (.ref c_NoBox)))
    (xxn_NoBox : PySem.W.excIn K c_NoBox [.type "ValueError", .type "Exception", .type "BaseException", .type "object"] "ValueError.__new__" = true)
    (xkp_NoBox : PySem.W.keepIn K (.ref c_NoBox) = true)
    (xbs_NoBox : PySem.W.subIn K (.ref c_NoBox) (.type "BaseException") = some true)
    (xty_NoBox : PySem.W.typeIn K (.ref c_NoBox) = some (.type "type"))
    (xic_NoBox : PySem.W.isClsIn K c_NoBox = true)
    (xhg_NoBox : PySem.W.findIn K (.ref c_NoBox) "__getattribute__" = some (some (.builtin "BaseException.__getattribute__")))
    (xhk_NoBox : PySem.W.findIn K (.ref c_NoBox) "__getattr__" = some none)
    (xhd_NoBox : PySem.W.hasDictIn K c_NoBox = true)
    (xha_NoBox : PySem.W.findIn K (.ref c_NoBox) "__class__" = some (some (.builtin "object.__class__")))
    (xhn_NoBox : PySem.W.specialIn K (.builtin "object.__class__") "__get__" = some (some (.builtin "getset_descriptor.__get__")))
    (xht_NoBox : PySem.W.takesIn K (.builtin "object.__class__") = some true)
    (xhm_NoBox : PySem.W.mroIn K c_NoBox (.type "object") = some true)
    (xvs_NoBox : PySem.W.subIn K (.ref c_NoBox) (.type "ValueError") = some true)
    (g_NoNames : PySem.W.nsIn K mainGlobals "NoNames" = some (some (.ref c_NoNames)))
    (xxn_NoNames : PySem.W.excIn K c_NoNames [.type "ValueError", .type "Exception", .type "BaseException", .type "object"] "ValueError.__new__" = true)
    (xkp_NoNames : PySem.W.keepIn K (.ref c_NoNames) = true)
    (xbs_NoNames : PySem.W.subIn K (.ref c_NoNames) (.type "BaseException") = some true)
    (xty_NoNames : PySem.W.typeIn K (.ref c_NoNames) = some (.type "type"))
    (xic_NoNames : PySem.W.isClsIn K c_NoNames = true)
    (xhg_NoNames : PySem.W.findIn K (.ref c_NoNames) "__getattribute__" = some (some (.builtin "BaseException.__getattribute__")))
    (xhk_NoNames : PySem.W.findIn K (.ref c_NoNames) "__getattr__" = some none)
    (xhd_NoNames : PySem.W.hasDictIn K c_NoNames = true)
    (xha_NoNames : PySem.W.findIn K (.ref c_NoNames) "__class__" = some (some (.builtin "object.__class__")))
    (xhn_NoNames : PySem.W.specialIn K (.builtin "object.__class__") "__get__" = some (some (.builtin "getset_descriptor.__get__")))
    (xht_NoNames : PySem.W.takesIn K (.builtin "object.__class__") = some true)
    (xhm_NoNames : PySem.W.mroIn K c_NoNames (.type "object") = some true)
    (xvs_NoNames : PySem.W.subIn K (.ref c_NoNames) (.type "ValueError") = some true)
    (g_NoCut : PySem.W.nsIn K mainGlobals "NoCut" = some (some (.ref c_NoCut)))
    (xxn_NoCut : PySem.W.excIn K c_NoCut [.type "ValueError", .type "Exception", .type "BaseException", .type "object"] "ValueError.__new__" = true)
    (xkp_NoCut : PySem.W.keepIn K (.ref c_NoCut) = true)
    (xbs_NoCut : PySem.W.subIn K (.ref c_NoCut) (.type "BaseException") = some true)
    (xty_NoCut : PySem.W.typeIn K (.ref c_NoCut) = some (.type "type"))
    (xic_NoCut : PySem.W.isClsIn K c_NoCut = true)
    (xhg_NoCut : PySem.W.findIn K (.ref c_NoCut) "__getattribute__" = some (some (.builtin "BaseException.__getattribute__")))
    (xhk_NoCut : PySem.W.findIn K (.ref c_NoCut) "__getattr__" = some none)
    (xhd_NoCut : PySem.W.hasDictIn K c_NoCut = true)
    (xha_NoCut : PySem.W.findIn K (.ref c_NoCut) "__class__" = some (some (.builtin "object.__class__")))
    (xhn_NoCut : PySem.W.specialIn K (.builtin "object.__class__") "__get__" = some (some (.builtin "getset_descriptor.__get__")))
    (xht_NoCut : PySem.W.takesIn K (.builtin "object.__class__") = some true)
    (xhm_NoCut : PySem.W.mroIn K c_NoCut (.type "object") = some true)
    (xvs_NoCut : PySem.W.subIn K (.ref c_NoCut) (.type "ValueError") = some true)
    (g_TooMany : PySem.W.nsIn K mainGlobals "TooMany" = some (some (.ref c_TooMany)))
    (xxn_TooMany : PySem.W.excIn K c_TooMany [.type "ValueError", .type "Exception", .type "BaseException", .type "object"] "ValueError.__new__" = true)
    (xkp_TooMany : PySem.W.keepIn K (.ref c_TooMany) = true)
    (xbs_TooMany : PySem.W.subIn K (.ref c_TooMany) (.type "BaseException") = some true)
    (xty_TooMany : PySem.W.typeIn K (.ref c_TooMany) = some (.type "type"))
    (xic_TooMany : PySem.W.isClsIn K c_TooMany = true)
    (xhg_TooMany : PySem.W.findIn K (.ref c_TooMany) "__getattribute__" = some (some (.builtin "BaseException.__getattribute__")))
    (xhk_TooMany : PySem.W.findIn K (.ref c_TooMany) "__getattr__" = some none)
    (xhd_TooMany : PySem.W.hasDictIn K c_TooMany = true)
    (xha_TooMany : PySem.W.findIn K (.ref c_TooMany) "__class__" = some (some (.builtin "object.__class__")))
    (xhn_TooMany : PySem.W.specialIn K (.builtin "object.__class__") "__get__" = some (some (.builtin "getset_descriptor.__get__")))
    (xht_TooMany : PySem.W.takesIn K (.builtin "object.__class__") = some true)
    (xhm_TooMany : PySem.W.mroIn K c_TooMany (.type "object") = some true)
    (xvs_TooMany : PySem.W.subIn K (.ref c_TooMany) (.type "ValueError") = some true)
    (u_TurnError_TurnError : PySem.W.subIn K (.ref c_TurnError) (.ref c_TurnError) = some true)
    (u_TurnError_NoForm : PySem.W.subIn K (.ref c_TurnError) (.ref c_NoForm) = some false)
    (u_TurnError_NoBox : PySem.W.subIn K (.ref c_TurnError) (.ref c_NoBox) = some false)
    (u_TurnError_NoNames : PySem.W.subIn K (.ref c_TurnError) (.ref c_NoNames) = some false)
    (u_TurnError_NoCut : PySem.W.subIn K (.ref c_TurnError) (.ref c_NoCut) = some false)
    (u_TurnError_TooMany : PySem.W.subIn K (.ref c_TurnError) (.ref c_TooMany) = some false)
    (u_NoForm_TurnError : PySem.W.subIn K (.ref c_NoForm) (.ref c_TurnError) = some true)
    (u_NoForm_NoForm : PySem.W.subIn K (.ref c_NoForm) (.ref c_NoForm) = some true)
    (u_NoForm_NoBox : PySem.W.subIn K (.ref c_NoForm) (.ref c_NoBox) = some false)
    (u_NoForm_NoNames : PySem.W.subIn K (.ref c_NoForm) (.ref c_NoNames) = some false)
    (u_NoForm_NoCut : PySem.W.subIn K (.ref c_NoForm) (.ref c_NoCut) = some false)
    (u_NoForm_TooMany : PySem.W.subIn K (.ref c_NoForm) (.ref c_TooMany) = some false)
    (u_NoBox_TurnError : PySem.W.subIn K (.ref c_NoBox) (.ref c_TurnError) = some true)
    (u_NoBox_NoForm : PySem.W.subIn K (.ref c_NoBox) (.ref c_NoForm) = some false)
    (u_NoBox_NoBox : PySem.W.subIn K (.ref c_NoBox) (.ref c_NoBox) = some true)
    (u_NoBox_NoNames : PySem.W.subIn K (.ref c_NoBox) (.ref c_NoNames) = some false)
    (u_NoBox_NoCut : PySem.W.subIn K (.ref c_NoBox) (.ref c_NoCut) = some false)
    (u_NoBox_TooMany : PySem.W.subIn K (.ref c_NoBox) (.ref c_TooMany) = some false)
    (u_NoNames_TurnError : PySem.W.subIn K (.ref c_NoNames) (.ref c_TurnError) = some true)
    (u_NoNames_NoForm : PySem.W.subIn K (.ref c_NoNames) (.ref c_NoForm) = some false)
    (u_NoNames_NoBox : PySem.W.subIn K (.ref c_NoNames) (.ref c_NoBox) = some false)
    (u_NoNames_NoNames : PySem.W.subIn K (.ref c_NoNames) (.ref c_NoNames) = some true)
    (u_NoNames_NoCut : PySem.W.subIn K (.ref c_NoNames) (.ref c_NoCut) = some false)
    (u_NoNames_TooMany : PySem.W.subIn K (.ref c_NoNames) (.ref c_TooMany) = some false)
    (u_NoCut_TurnError : PySem.W.subIn K (.ref c_NoCut) (.ref c_TurnError) = some true)
    (u_NoCut_NoForm : PySem.W.subIn K (.ref c_NoCut) (.ref c_NoForm) = some false)
    (u_NoCut_NoBox : PySem.W.subIn K (.ref c_NoCut) (.ref c_NoBox) = some false)
    (u_NoCut_NoNames : PySem.W.subIn K (.ref c_NoCut) (.ref c_NoNames) = some false)
    (u_NoCut_NoCut : PySem.W.subIn K (.ref c_NoCut) (.ref c_NoCut) = some true)
    (u_NoCut_TooMany : PySem.W.subIn K (.ref c_NoCut) (.ref c_TooMany) = some false)
    (u_TooMany_TurnError : PySem.W.subIn K (.ref c_TooMany) (.ref c_TurnError) = some true)
    (u_TooMany_NoForm : PySem.W.subIn K (.ref c_TooMany) (.ref c_NoForm) = some false)
    (u_TooMany_NoBox : PySem.W.subIn K (.ref c_TooMany) (.ref c_NoBox) = some false)
    (u_TooMany_NoNames : PySem.W.subIn K (.ref c_TooMany) (.ref c_NoNames) = some false)
    (u_TooMany_NoCut : PySem.W.subIn K (.ref c_TooMany) (.ref c_NoCut) = some false)
    (u_TooMany_TooMany : PySem.W.subIn K (.ref c_TooMany) (.ref c_TooMany) = some true)
    (b_len : PySem.W.nsIn K mainGlobals "len" = some none)
    (b_range : PySem.W.nsIn K mainGlobals "range" = some none)
    (b_int : PySem.W.nsIn K mainGlobals "int" = some none)
    (b_abs : PySem.W.nsIn K mainGlobals "abs" = some none)
    (b_min : PySem.W.nsIn K mainGlobals "min" = some none)
    (b_tuple : PySem.W.nsIn K mainGlobals "tuple" = some none)
    (b_sorted : PySem.W.nsIn K mainGlobals "sorted" = some none)
    (b_list : PySem.W.nsIn K mainGlobals "list" = some none)
    (b_isinstance : PySem.W.nsIn K mainGlobals "isinstance" = some none)
    (b_zip : PySem.W.nsIn K mainGlobals "zip" = some none)
    (b_bool : PySem.W.nsIn K mainGlobals "bool" = some none)
    (b_ValueError : PySem.W.nsIn K mainGlobals "ValueError" = some none)
    : ∃ fd : FuncData, (∀ (s : Shared) (v : Value), BindsTo s fd ⟨[v], []⟩ [("script", v)]) ∧ ∀ base : Heap, K.In base → base.Ns mainGlobals mg → FnOk l.prog w K mg base CX0 LEVEL fa fd ["script"] (sp_law K) := by
  have e := hfa.symm.trans (PySem.W.mg_of X G a_law)
  cases e
  let T : Txt K mg := {
    f_line_right := f_line_right, d_line_right := _, F_line_right := fun_mk (st := s_line_right) l_line_right c_line_right k_line_right, m_line_right := PySem.W.mg_of X G a_line_right,
    b_line_right := (fun_mk (st := s_line_right) l_line_right c_line_right k_line_right).binds (ps := ["corners", "line"]) fun _ _ _ _ _ _ us hl => match us, hl with | [_, _], _ => rfl,
    f_crossing := f_crossing, d_crossing := _, F_crossing := fun_mk (st := s_crossing) l_crossing c_crossing k_crossing, m_crossing := PySem.W.mg_of X G a_crossing,
    b_crossing := (fun_mk (st := s_crossing) l_crossing c_crossing k_crossing).binds (ps := ["line", "other"]) fun _ _ _ _ _ _ us hl => match us, hl with | [_, _], _ => rfl,
    f_is_cut := f_is_cut, d_is_cut := _, F_is_cut := fun_mk (st := s_is_cut) l_is_cut c_is_cut k_is_cut, m_is_cut := PySem.W.mg_of X G a_is_cut,
    b_is_cut := (fun_mk (st := s_is_cut) l_is_cut c_is_cut k_is_cut).binds (ps := ["corners", "lines"]) fun _ _ _ _ _ _ us hl => match us, hl with | [_, _], _ => rfl,
    f_must_cut := f_must_cut, d_must_cut := _, F_must_cut := fun_mk (st := s_must_cut) l_must_cut c_must_cut k_must_cut, m_must_cut := PySem.W.mg_of X G a_must_cut,
    b_must_cut := (fun_mk (st := s_must_cut) l_must_cut c_must_cut k_must_cut).binds (ps := ["corners", "lines"]) fun _ _ _ _ _ _ us hl => match us, hl with | [_, _], _ => rfl,
    f_is_side := f_is_side, d_is_side := _, F_is_side := fun_mk (st := s_is_side) l_is_side c_is_side k_is_side, m_is_side := PySem.W.mg_of X G a_is_side,
    b_is_side := (fun_mk (st := s_is_side) l_is_side c_is_side k_is_side).binds (ps := ["corners", "lines", "one", "other"]) fun _ _ _ _ _ _ us hl => match us, hl with | [_, _, _, _], _ => rfl,
    f_triangles := f_triangles, d_triangles := _, F_triangles := fun_mk (st := s_triangles) l_triangles c_triangles k_triangles, m_triangles := PySem.W.mg_of X G a_triangles,
    b_triangles := (fun_mk (st := s_triangles) l_triangles c_triangles k_triangles).binds (ps := ["corners", "lines"]) fun _ _ _ _ _ _ us hl => match us, hl with | [_, _], _ => rfl,
    f_form_by := f_form_by, d_form_by := _, F_form_by := fun_mk (st := s_form_by) l_form_by c_form_by k_form_by, m_form_by := PySem.W.mg_of X G a_form_by,
    b_form_by := (fun_mk (st := s_form_by) l_form_by c_form_by k_form_by).binds (ps := ["corners", "lines"]) fun _ _ _ _ _ _ us hl => match us, hl with | [_, _], _ => rfl,
    f_form_of := f_form_of, d_form_of := _, F_form_of := fun_mk (st := s_form_of) l_form_of c_form_of k_form_of, m_form_of := PySem.W.mg_of X G a_form_of,
    b_form_of := (fun_mk (st := s_form_of) l_form_of c_form_of k_form_of).binds (ps := ["corners", "lines"]) fun _ _ _ _ _ _ us hl => match us, hl with | [_, _], _ => rfl,
    f_row := f_row, d_row := _, F_row := fun_mk (st := s_row) l_row c_row k_row, m_row := PySem.W.mg_of X G a_row,
    b_row := (fun_mk (st := s_row) l_row c_row k_row).binds (ps := ["boxes"]) fun _ _ _ _ _ _ us hl => match us, hl with | [_], _ => rfl,
    f_is_form := f_is_form, d_is_form := _, F_is_form := fun_mk (st := s_is_form) l_is_form c_is_form k_is_form, m_is_form := PySem.W.mg_of X G a_is_form,
    b_is_form := (fun_mk (st := s_is_form) l_is_form c_is_form k_is_form).binds (ps := ["form"]) fun _ _ _ _ _ _ us hl => match us, hl with | [_], _ => rfl,
    f_must_form := f_must_form, d_must_form := _, F_must_form := fun_mk (st := s_must_form) l_must_form c_must_form k_must_form, m_must_form := PySem.W.mg_of X G a_must_form,
    b_must_form := (fun_mk (st := s_must_form) l_must_form c_must_form k_must_form).binds (ps := ["form"]) fun _ _ _ _ _ _ us hl => match us, hl with | [_], _ => rfl,
    f_through := f_through, d_through := _, F_through := fun_mk (st := s_through) l_through c_through k_through, m_through := PySem.W.mg_of X G a_through,
    b_through := (fun_mk (st := s_through) l_through c_through k_through).binds (ps := ["one", "other"]) fun _ _ _ _ _ _ us hl => match us, hl with | [_, _], _ => rfl,
    f_turned_by := f_turned_by, d_turned_by := _, F_turned_by := fun_mk (st := s_turned_by) l_turned_by c_turned_by k_turned_by, m_turned_by := PySem.W.mg_of X G a_turned_by,
    b_turned_by := (fun_mk (st := s_turned_by) l_turned_by c_turned_by k_turned_by).binds (ps := ["form", "box"]) fun _ _ _ _ _ _ us hl => match us, hl with | [_, _], _ => rfl,
    f_renamed_by := f_renamed_by, d_renamed_by := _, F_renamed_by := fun_mk (st := s_renamed_by) l_renamed_by c_renamed_by k_renamed_by, m_renamed_by := PySem.W.mg_of X G a_renamed_by,
    b_renamed_by := (fun_mk (st := s_renamed_by) l_renamed_by c_renamed_by k_renamed_by).binds (ps := ["form", "names"]) fun _ _ _ _ _ _ us hl => match us, hl with | [_, _], _ => rfl,
    f_goes_on := f_goes_on, d_goes_on := _, F_goes_on := fun_mk (st := s_goes_on) l_goes_on c_goes_on k_goes_on, m_goes_on := PySem.W.mg_of X G a_goes_on,
    b_goes_on := (fun_mk (st := s_goes_on) l_goes_on c_goes_on k_goes_on).binds (ps := ["form", "other", "names", "name"]) fun _ _ _ _ _ _ us hl => match us, hl with | [_, _, _, _], _ => rfl,
    f_first_names := f_first_names, d_first_names := _, F_first_names := fun_mk (st := s_first_names) l_first_names c_first_names k_first_names, m_first_names := PySem.W.mg_of X G a_first_names,
    b_first_names := (fun_mk (st := s_first_names) l_first_names c_first_names k_first_names).binds (ps := ["form", "other", "names"]) fun _ _ _ _ _ _ us hl => match us, hl with | [_, _, _], _ => rfl,
    f_alike := f_alike, d_alike := _, F_alike := fun_mk (st := s_alike) l_alike c_alike k_alike, m_alike := PySem.W.mg_of X G a_alike,
    b_alike := (fun_mk (st := s_alike) l_alike c_alike k_alike).binds (ps := ["form", "other"]) fun _ _ _ _ _ _ us hl => match us, hl with | [_, _], _ => rfl,
    f_all_names := f_all_names, d_all_names := _, F_all_names := fun_mk (st := s_all_names) l_all_names c_all_names k_all_names, m_all_names := PySem.W.mg_of X G a_all_names,
    b_all_names := (fun_mk (st := s_all_names) l_all_names c_all_names k_all_names).binds (ps := ["count"]) fun _ _ _ _ _ _ us hl => match us, hl with | [_], _ => rfl,
    f_least_by := f_least_by, d_least_by := _, F_least_by := fun_mk (st := s_least_by) l_least_by c_least_by k_least_by, m_least_by := PySem.W.mg_of X G a_least_by,
    b_least_by := (fun_mk (st := s_least_by) l_least_by c_least_by k_least_by).binds (ps := ["form"]) fun _ _ _ _ _ _ us hl => match us, hl with | [_], _ => rfl,
    f_must_be_few := f_must_be_few, d_must_be_few := _, F_must_be_few := fun_mk (st := s_must_be_few) l_must_be_few c_must_be_few k_must_be_few, m_must_be_few := PySem.W.mg_of X G a_must_be_few,
    b_must_be_few := (fun_mk (st := s_must_be_few) l_must_be_few c_must_be_few k_must_be_few).binds (ps := ["form"]) fun _ _ _ _ _ _ us hl => match us, hl with | [_], _ => rfl,
    f_least := f_least, d_least := _, F_least := fun_mk (st := s_least) l_least c_least k_least, m_least := PySem.W.mg_of X G a_least,
    b_least := (fun_mk (st := s_least) l_least c_least k_least).binds (ps := ["form"]) fun _ _ _ _ _ _ us hl => match us, hl with | [_], _ => rfl,
    f_key_of := f_key_of, d_key_of := _, F_key_of := fun_mk (st := s_key_of) l_key_of c_key_of k_key_of, m_key_of := PySem.W.mg_of X G a_key_of,
    b_key_of := (fun_mk (st := s_key_of) l_key_of c_key_of k_key_of).binds (ps := ["form"]) fun _ _ _ _ _ _ us hl => match us, hl with | [_], _ => rfl,
    f_ways_from := f_ways_from, d_ways_from := _, F_ways_from := fun_mk (st := s_ways_from) l_ways_from c_ways_from k_ways_from, m_ways_from := PySem.W.mg_of X G a_ways_from,
    b_ways_from := (fun_mk (st := s_ways_from) l_ways_from c_ways_from k_ways_from).binds (ps := ["form"]) fun _ _ _ _ _ _ us hl => match us, hl with | [_], _ => rfl,
    f_reach := f_reach, d_reach := _, F_reach := fun_mk (st := s_reach) l_reach c_reach k_reach, m_reach := PySem.W.mg_of X G a_reach,
    b_reach := (fun_mk (st := s_reach) l_reach c_reach k_reach).binds (ps := ["form"]) fun _ _ _ _ _ _ us hl => match us, hl with | [_], _ => rfl,
    f_way := f_way, d_way := _, F_way := fun_mk (st := s_way) l_way c_way k_way, m_way := PySem.W.mg_of X G a_way,
    b_way := (fun_mk (st := s_way) l_way c_way k_way).binds (ps := ["form", "other"]) fun _ _ _ _ _ _ us hl => match us, hl with | [_, _], _ => rfl,
    f__law_cell := f__law_cell, d__law_cell := _, F__law_cell := fun_mk (st := s__law_cell) l__law_cell c__law_cell k__law_cell, m__law_cell := PySem.W.mg_of X G a__law_cell,
    b__law_cell := (fun_mk (st := s__law_cell) l__law_cell c__law_cell k__law_cell).binds (ps := ["script", "k"]) fun _ _ _ _ _ _ us hl => match us, hl with | [_, _], _ => rfl,
    f__law_copy := f__law_copy, d__law_copy := _, F__law_copy := fun_mk (st := s__law_copy) l__law_copy c__law_copy k__law_copy, m__law_copy := PySem.W.mg_of X G a__law_copy,
    b__law_copy := (fun_mk (st := s__law_copy) l__law_copy c__law_copy k__law_copy).binds (ps := ["form"]) fun _ _ _ _ _ _ us hl => match us, hl with | [_], _ => rfl,
    f__law_like := f__law_like, d__law_like := _, F__law_like := fun_mk (st := s__law_like) l__law_like c__law_like k__law_like, m__law_like := PySem.W.mg_of X G a__law_like,
    b__law_like := (fun_mk (st := s__law_like) l__law_like c__law_like k__law_like).binds (ps := ["found", "due"]) fun _ _ _ _ _ _ us hl => match us, hl with | [_, _], _ => rfl,
    f__law_turn := f__law_turn, d__law_turn := _, F__law_turn := fun_mk (st := s__law_turn) l__law_turn c__law_turn k__law_turn, m__law_turn := PySem.W.mg_of X G a__law_turn,
    b__law_turn := (fun_mk (st := s__law_turn) l__law_turn c__law_turn k__law_turn).binds (ps := ["form", "box"]) fun _ _ _ _ _ _ us hl => match us, hl with | [_, _], _ => rfl,
    f__law_line := f__law_line, d__law_line := _, F__law_line := fun_mk (st := s__law_line) l__law_line c__law_line k__law_line, m__law_line := PySem.W.mg_of X G a__law_line,
    b__law_line := (fun_mk (st := s__law_line) l__law_line c__law_line k__law_line).binds (ps := ["corners", "line"]) fun _ _ _ _ _ _ us hl => match us, hl with | [_, _], _ => rfl,
    f__law_cross := f__law_cross, d__law_cross := _, F__law_cross := fun_mk (st := s__law_cross) l__law_cross c__law_cross k__law_cross, m__law_cross := PySem.W.mg_of X G a__law_cross,
    b__law_cross := (fun_mk (st := s__law_cross) l__law_cross c__law_cross k__law_cross).binds (ps := ["line", "other"]) fun _ _ _ _ _ _ us hl => match us, hl with | [_, _], _ => rfl,
    f__law_cut := f__law_cut, d__law_cut := _, F__law_cut := fun_mk (st := s__law_cut) l__law_cut c__law_cut k__law_cut, m__law_cut := PySem.W.mg_of X G a__law_cut,
    b__law_cut := (fun_mk (st := s__law_cut) l__law_cut c__law_cut k__law_cut).binds (ps := ["script", "k", "corners"]) fun _ _ _ _ _ _ us hl => match us, hl with | [_, _, _], _ => rfl,
    f__law_which := f__law_which, d__law_which := _, F__law_which := fun_mk (st := s__law_which) l__law_which c__law_which k__law_which, m__law_which := PySem.W.mg_of X G a__law_which,
    b__law_which := (fun_mk (st := s__law_which) l__law_which c__law_which k__law_which).binds (ps := ["e"]) fun _ _ _ _ _ _ us hl => match us, hl with | [_], _ => rfl,
    f__law_all := f__law_all, d__law_all := _, F__law_all := fun_mk (st := s__law_all) l__law_all c__law_all k__law_all, m__law_all := PySem.W.mg_of X G a__law_all,
    b__law_all := (fun_mk (st := s__law_all) l__law_all c__law_all k__law_all).binds (ps := ["lines", "wanted"]) fun _ _ _ _ _ _ us hl => match us, hl with | [_, _], _ => rfl,
    f__law_refused := f__law_refused, d__law_refused := _, F__law_refused := fun_mk (st := s__law_refused) l__law_refused c__law_refused k__law_refused, m__law_refused := PySem.W.mg_of X G a__law_refused,
    b__law_refused := (fun_mk (st := s__law_refused) l__law_refused c__law_refused k__law_refused).binds (ps := ["boxes"]) fun _ _ _ _ _ _ us hl => match us, hl with | [_], _ => rfl,
    f_law := _, d_law := _, F_law := fun_mk (st := s_law) l_law c_law k_law, m_law := PySem.W.mg_of X G a_law,
    b_law := (fun_mk (st := s_law) l_law c_law k_law).binds (ps := ["script"]) fun _ _ _ _ _ _ us hl => match us, hl with | [_], _ => rfl,
    t_MOST_CORNERS := t_MOST_CORNERS, m_MOST_CORNERS := PySem.W.mg_of X G m_MOST_CORNERS,
    t_MOST_BOXES := t_MOST_BOXES, m_MOST_BOXES := PySem.W.mg_of X G m_MOST_BOXES,
    t_MOST_ARROWS := t_MOST_ARROWS, m_MOST_ARROWS := PySem.W.mg_of X G m_MOST_ARROWS,
    t_MOST_NAMED := t_MOST_NAMED, m_MOST_NAMED := PySem.W.mg_of X G m_MOST_NAMED,
    t_MOST_FORMS := t_MOST_FORMS, m_MOST_FORMS := PySem.W.mg_of X G m_MOST_FORMS,
    c_TurnError := c_TurnError, g_TurnError := PySem.W.mg_of X G g_TurnError, x_TurnError := { g := PySem.W.mg_of X G g_TurnError, xn := xxn_TurnError, kp := xkp_TurnError, bs := xbs_TurnError, ty := xty_TurnError, ic := xic_TurnError, hg := xhg_TurnError, hk := xhk_TurnError, hd := xhd_TurnError, ha := xha_TurnError, hn := xhn_TurnError, ht := xht_TurnError, hm := xhm_TurnError, vs := xvs_TurnError },
    c_NoForm := c_NoForm, g_NoForm := PySem.W.mg_of X G g_NoForm, x_NoForm := { g := PySem.W.mg_of X G g_NoForm, xn := xxn_NoForm, kp := xkp_NoForm, bs := xbs_NoForm, ty := xty_NoForm, ic := xic_NoForm, hg := xhg_NoForm, hk := xhk_NoForm, hd := xhd_NoForm, ha := xha_NoForm, hn := xhn_NoForm, ht := xht_NoForm, hm := xhm_NoForm, vs := xvs_NoForm },
    c_NoBox := c_NoBox, g_NoBox := PySem.W.mg_of X G g_NoBox, x_NoBox := { g := PySem.W.mg_of X G g_NoBox, xn := xxn_NoBox, kp := xkp_NoBox, bs := xbs_NoBox, ty := xty_NoBox, ic := xic_NoBox, hg := xhg_NoBox, hk := xhk_NoBox, hd := xhd_NoBox, ha := xha_NoBox, hn := xhn_NoBox, ht := xht_NoBox, hm := xhm_NoBox, vs := xvs_NoBox },
    c_NoNames := c_NoNames, g_NoNames := PySem.W.mg_of X G g_NoNames, x_NoNames := { g := PySem.W.mg_of X G g_NoNames, xn := xxn_NoNames, kp := xkp_NoNames, bs := xbs_NoNames, ty := xty_NoNames, ic := xic_NoNames, hg := xhg_NoNames, hk := xhk_NoNames, hd := xhd_NoNames, ha := xha_NoNames, hn := xhn_NoNames, ht := xht_NoNames, hm := xhm_NoNames, vs := xvs_NoNames },
    c_NoCut := c_NoCut, g_NoCut := PySem.W.mg_of X G g_NoCut, x_NoCut := { g := PySem.W.mg_of X G g_NoCut, xn := xxn_NoCut, kp := xkp_NoCut, bs := xbs_NoCut, ty := xty_NoCut, ic := xic_NoCut, hg := xhg_NoCut, hk := xhk_NoCut, hd := xhd_NoCut, ha := xha_NoCut, hn := xhn_NoCut, ht := xht_NoCut, hm := xhm_NoCut, vs := xvs_NoCut },
    c_TooMany := c_TooMany, g_TooMany := PySem.W.mg_of X G g_TooMany, x_TooMany := { g := PySem.W.mg_of X G g_TooMany, xn := xxn_TooMany, kp := xkp_TooMany, bs := xbs_TooMany, ty := xty_TooMany, ic := xic_TooMany, hg := xhg_TooMany, hk := xhk_TooMany, hd := xhd_TooMany, ha := xha_TooMany, hn := xhn_TooMany, ht := xht_TooMany, hm := xhm_TooMany, vs := xvs_TooMany },
    u_TurnError_TurnError := u_TurnError_TurnError,
    u_TurnError_NoForm := u_TurnError_NoForm,
    u_TurnError_NoBox := u_TurnError_NoBox,
    u_TurnError_NoNames := u_TurnError_NoNames,
    u_TurnError_NoCut := u_TurnError_NoCut,
    u_TurnError_TooMany := u_TurnError_TooMany,
    u_NoForm_TurnError := u_NoForm_TurnError,
    u_NoForm_NoForm := u_NoForm_NoForm,
    u_NoForm_NoBox := u_NoForm_NoBox,
    u_NoForm_NoNames := u_NoForm_NoNames,
    u_NoForm_NoCut := u_NoForm_NoCut,
    u_NoForm_TooMany := u_NoForm_TooMany,
    u_NoBox_TurnError := u_NoBox_TurnError,
    u_NoBox_NoForm := u_NoBox_NoForm,
    u_NoBox_NoBox := u_NoBox_NoBox,
    u_NoBox_NoNames := u_NoBox_NoNames,
    u_NoBox_NoCut := u_NoBox_NoCut,
    u_NoBox_TooMany := u_NoBox_TooMany,
    u_NoNames_TurnError := u_NoNames_TurnError,
    u_NoNames_NoForm := u_NoNames_NoForm,
    u_NoNames_NoBox := u_NoNames_NoBox,
    u_NoNames_NoNames := u_NoNames_NoNames,
    u_NoNames_NoCut := u_NoNames_NoCut,
    u_NoNames_TooMany := u_NoNames_TooMany,
    u_NoCut_TurnError := u_NoCut_TurnError,
    u_NoCut_NoForm := u_NoCut_NoForm,
    u_NoCut_NoBox := u_NoCut_NoBox,
    u_NoCut_NoNames := u_NoCut_NoNames,
    u_NoCut_NoCut := u_NoCut_NoCut,
    u_NoCut_TooMany := u_NoCut_TooMany,
    u_TooMany_TurnError := u_TooMany_TurnError,
    u_TooMany_NoForm := u_TooMany_NoForm,
    u_TooMany_NoBox := u_TooMany_NoBox,
    u_TooMany_NoNames := u_TooMany_NoNames,
    u_TooMany_NoCut := u_TooMany_NoCut,
    u_TooMany_TooMany := u_TooMany_TooMany,
    b_len := PySem.W.mg_none_of X G b_len,
    b_range := PySem.W.mg_none_of X G b_range,
    b_int := PySem.W.mg_none_of X G b_int,
    b_abs := PySem.W.mg_none_of X G b_abs,
    b_min := PySem.W.mg_none_of X G b_min,
    b_tuple := PySem.W.mg_none_of X G b_tuple,
    b_sorted := PySem.W.mg_none_of X G b_sorted,
    b_list := PySem.W.mg_none_of X G b_list,
    b_isinstance := PySem.W.mg_none_of X G b_isinstance,
    b_zip := PySem.W.mg_none_of X G b_zip,
    b_bool := PySem.W.mg_none_of X G b_bool,
    b_ValueError := PySem.W.mg_none_of X G b_ValueError }
  exact ⟨PySem.W.fnOf "law" "law" (defArgs s_law) (defBody s_law) (defScope s_law) .none kV_law dc_law pm_law an_law cd_law ct_law, fun s v => .of_eq rfl, fun base _ _ => law_ok T⟩
end AT
open PySem PySem.W PyProof.Rows
set_option maxHeartbeats 0 in
theorem PySem.Challenge.cw_arrowturns_k15_whole_rows_and_rings_holds : PySem.Challenge.rw_arrowturns_k15_whole_rows_and_rings.Holds := by
  w_on; o_law; k_head; (case hw => w_witness2)
  k_fill
  refine L2.walk_of (l := PySem.Challenge.rw_arrowturns_k15_whole_rows_and_rings) (n := 63) (k := AT.LEVEL) (x := "script") (CX := fun _ => L2.CX0) (sp := fun w => AT.sp_law _) rfl (by decide) rfl ⟨rfl, by decide, by decide⟩ (fun w h Y => PySem.W.kIn_of Y) ?F (fun _ _ a ns hl _ hS => ⟨a, ns, rfl, hS, hl, fun _ => rfl⟩) (fun _ _ _ _ _ h => h)
  case F =>
    intro w mg fa h KX G hmg
    refine' AT.all_mk KX G hmg ?a_line_right ?l_line_right ?c_line_right ?k_line_right ?a_crossing ?l_crossing ?c_crossing ?k_crossing ?a_is_cut ?l_is_cut ?c_is_cut ?k_is_cut ?a_must_cut ?l_must_cut ?c_must_cut ?k_must_cut ?a_is_side ?l_is_side ?c_is_side ?k_is_side ?a_triangles ?l_triangles ?c_triangles ?k_triangles ?a_form_by ?l_form_by ?c_form_by ?k_form_by ?a_form_of ?l_form_of ?c_form_of ?k_form_of ?a_row ?l_row ?c_row ?k_row ?a_is_form ?l_is_form ?c_is_form ?k_is_form ?a_must_form ?l_must_form ?c_must_form ?k_must_form ?a_through ?l_through ?c_through ?k_through ?a_turned_by ?l_turned_by ?c_turned_by ?k_turned_by ?a_renamed_by ?l_renamed_by ?c_renamed_by ?k_renamed_by ?a_goes_on ?l_goes_on ?c_goes_on ?k_goes_on ?a_first_names ?l_first_names ?c_first_names ?k_first_names ?a_alike ?l_alike ?c_alike ?k_alike ?a_all_names ?l_all_names ?c_all_names ?k_all_names ?a_least_by ?l_least_by ?c_least_by ?k_least_by ?a_must_be_few ?l_must_be_few ?c_must_be_few ?k_must_be_few ?a_least ?l_least ?c_least ?k_least ?a_key_of ?l_key_of ?c_key_of ?k_key_of ?a_ways_from ?l_ways_from ?c_ways_from ?k_ways_from ?a_reach ?l_reach ?c_reach ?k_reach ?a_way ?l_way ?c_way ?k_way ?a__law_cell ?l__law_cell ?c__law_cell ?k__law_cell ?a__law_copy ?l__law_copy ?c__law_copy ?k__law_copy ?a__law_like ?l__law_like ?c__law_like ?k__law_like ?a__law_turn ?l__law_turn ?c__law_turn ?k__law_turn ?a__law_line ?l__law_line ?c__law_line ?k__law_line ?a__law_cross ?l__law_cross ?c__law_cross ?k__law_cross ?a__law_cut ?l__law_cut ?c__law_cut ?k__law_cut ?a__law_which ?l__law_which ?c__law_which ?k__law_which ?a__law_all ?l__law_all ?c__law_all ?k__law_all ?a__law_refused ?l__law_refused ?c__law_refused ?k__law_refused ?a_law ?l_law ?c_law ?k_law ?m_MOST_CORNERS ?m_MOST_BOXES ?m_MOST_ARROWS ?m_MOST_NAMED ?m_MOST_FORMS ?g_TurnError ?xxn_TurnError ?xkp_TurnError ?xbs_TurnError ?xty_TurnError ?xic_TurnError ?xhg_TurnError ?xhk_TurnError ?xhd_TurnError ?xha_TurnError ?xhn_TurnError ?xht_TurnError ?xhm_TurnError ?xvs_TurnError ?g_NoForm ?xxn_NoForm ?xkp_NoForm ?xbs_NoForm ?xty_NoForm ?xic_NoForm ?xhg_NoForm ?xhk_NoForm ?xhd_NoForm ?xha_NoForm ?xhn_NoForm ?xht_NoForm ?xhm_NoForm ?xvs_NoForm ?g_NoBox ?xxn_NoBox ?xkp_NoBox ?xbs_NoBox ?xty_NoBox ?xic_NoBox ?xhg_NoBox ?xhk_NoBox ?xhd_NoBox ?xha_NoBox ?xhn_NoBox ?xht_NoBox ?xhm_NoBox ?xvs_NoBox ?g_NoNames ?xxn_NoNames ?xkp_NoNames ?xbs_NoNames ?xty_NoNames ?xic_NoNames ?xhg_NoNames ?xhk_NoNames ?xhd_NoNames ?xha_NoNames ?xhn_NoNames ?xht_NoNames ?xhm_NoNames ?xvs_NoNames ?g_NoCut ?xxn_NoCut ?xkp_NoCut ?xbs_NoCut ?xty_NoCut ?xic_NoCut ?xhg_NoCut ?xhk_NoCut ?xhd_NoCut ?xha_NoCut ?xhn_NoCut ?xht_NoCut ?xhm_NoCut ?xvs_NoCut ?g_TooMany ?xxn_TooMany ?xkp_TooMany ?xbs_TooMany ?xty_TooMany ?xic_TooMany ?xhg_TooMany ?xhk_TooMany ?xhd_TooMany ?xha_TooMany ?xhn_TooMany ?xht_TooMany ?xhm_TooMany ?xvs_TooMany ?u_TurnError_TurnError ?u_TurnError_NoForm ?u_TurnError_NoBox ?u_TurnError_NoNames ?u_TurnError_NoCut ?u_TurnError_TooMany ?u_NoForm_TurnError ?u_NoForm_NoForm ?u_NoForm_NoBox ?u_NoForm_NoNames ?u_NoForm_NoCut ?u_NoForm_TooMany ?u_NoBox_TurnError ?u_NoBox_NoForm ?u_NoBox_NoBox ?u_NoBox_NoNames ?u_NoBox_NoCut ?u_NoBox_TooMany ?u_NoNames_TurnError ?u_NoNames_NoForm ?u_NoNames_NoBox ?u_NoNames_NoNames ?u_NoNames_NoCut ?u_NoNames_TooMany ?u_NoCut_TurnError ?u_NoCut_NoForm ?u_NoCut_NoBox ?u_NoCut_NoNames ?u_NoCut_NoCut ?u_NoCut_TooMany ?u_TooMany_TurnError ?u_TooMany_NoForm ?u_TooMany_NoBox ?u_TooMany_NoNames ?u_TooMany_NoCut ?u_TooMany_TooMany ?b_len ?b_range ?b_int ?b_abs ?b_min ?b_tuple ?b_sorted ?b_list ?b_isinstance ?b_zip ?b_bool ?b_ValueError
    (case a_line_right => k_is)
    (case l_line_right => k_is)
    (case c_line_right => k_is)
    (case k_line_right => k_is)
    (case a_crossing => k_is)
    (case l_crossing => k_is)
    (case c_crossing => k_is)
    (case k_crossing => k_is)
    (case a_is_cut => k_is)
    (case l_is_cut => k_is)
    (case c_is_cut => k_is)
    (case k_is_cut => k_is)
    (case a_must_cut => k_is)
    (case l_must_cut => k_is)
    (case c_must_cut => k_is)
    (case k_must_cut => k_is)
    (case a_is_side => k_is)
    (case l_is_side => k_is)
    (case c_is_side => k_is)
    (case k_is_side => k_is)
    (case a_triangles => k_is)
    (case l_triangles => k_is)
    (case c_triangles => k_is)
    (case k_triangles => k_is)
    (case a_form_by => k_is)
    (case l_form_by => k_is)
    (case c_form_by => k_is)
    (case k_form_by => k_is)
    (case a_form_of => k_is)
    (case l_form_of => k_is)
    (case c_form_of => k_is)
    (case k_form_of => k_is)
    (case a_row => k_is)
    (case l_row => k_is)
    (case c_row => k_is)
    (case k_row => k_is)
    (case a_is_form => k_is)
    (case l_is_form => k_is)
    (case c_is_form => k_is)
    (case k_is_form => k_is)
    (case a_must_form => k_is)
    (case l_must_form => k_is)
    (case c_must_form => k_is)
    (case k_must_form => k_is)
    (case a_through => k_is)
    (case l_through => k_is)
    (case c_through => k_is)
    (case k_through => k_is)
    (case a_turned_by => k_is)
    (case l_turned_by => k_is)
    (case c_turned_by => k_is)
    (case k_turned_by => k_is)
    (case a_renamed_by => k_is)
    (case l_renamed_by => k_is)
    (case c_renamed_by => k_is)
    (case k_renamed_by => k_is)
    (case a_goes_on => k_is)
    (case l_goes_on => k_is)
    (case c_goes_on => k_is)
    (case k_goes_on => k_is)
    (case a_first_names => k_is)
    (case l_first_names => k_is)
    (case c_first_names => k_is)
    (case k_first_names => k_is)
    (case a_alike => k_is)
    (case l_alike => k_is)
    (case c_alike => k_is)
    (case k_alike => k_is)
    (case a_all_names => k_is)
    (case l_all_names => k_is)
    (case c_all_names => k_is)
    (case k_all_names => k_is)
    (case a_least_by => k_is)
    (case l_least_by => k_is)
    (case c_least_by => k_is)
    (case k_least_by => k_is)
    (case a_must_be_few => k_is)
    (case l_must_be_few => k_is)
    (case c_must_be_few => k_is)
    (case k_must_be_few => k_is)
    (case a_least => k_is)
    (case l_least => k_is)
    (case c_least => k_is)
    (case k_least => k_is)
    (case a_key_of => k_is)
    (case l_key_of => k_is)
    (case c_key_of => k_is)
    (case k_key_of => k_is)
    (case a_ways_from => k_is)
    (case l_ways_from => k_is)
    (case c_ways_from => k_is)
    (case k_ways_from => k_is)
    (case a_reach => k_is)
    (case l_reach => k_is)
    (case c_reach => k_is)
    (case k_reach => k_is)
    (case a_way => k_is)
    (case l_way => k_is)
    (case c_way => k_is)
    (case k_way => k_is)
    (case a__law_cell => k_is)
    (case l__law_cell => k_is)
    (case c__law_cell => k_is)
    (case k__law_cell => k_is)
    (case a__law_copy => k_is)
    (case l__law_copy => k_is)
    (case c__law_copy => k_is)
    (case k__law_copy => k_is)
    (case a__law_like => k_is)
    (case l__law_like => k_is)
    (case c__law_like => k_is)
    (case k__law_like => k_is)
    (case a__law_turn => k_is)
    (case l__law_turn => k_is)
    (case c__law_turn => k_is)
    (case k__law_turn => k_is)
    (case a__law_line => k_is)
    (case l__law_line => k_is)
    (case c__law_line => k_is)
    (case k__law_line => k_is)
    (case a__law_cross => k_is)
    (case l__law_cross => k_is)
    (case c__law_cross => k_is)
    (case k__law_cross => k_is)
    (case a__law_cut => k_is)
    (case l__law_cut => k_is)
    (case c__law_cut => k_is)
    (case k__law_cut => k_is)
    (case a__law_which => k_is)
    (case l__law_which => k_is)
    (case c__law_which => k_is)
    (case k__law_which => k_is)
    (case a__law_all => k_is)
    (case l__law_all => k_is)
    (case c__law_all => k_is)
    (case k__law_all => k_is)
    (case a__law_refused => k_is)
    (case l__law_refused => k_is)
    (case c__law_refused => k_is)
    (case k__law_refused => k_is)
    (case a_law => k_is)
    (case l_law => k_is)
    (case c_law => k_is)
    (case k_law => k_is)
    (case m_MOST_CORNERS => k_is)
    (case m_MOST_BOXES => k_is)
    (case m_MOST_ARROWS => k_is)
    (case m_MOST_NAMED => k_is)
    (case m_MOST_FORMS => k_is)
    (case g_TurnError => k_is)
    (case xxn_TurnError => k_exc)
    (case xkp_TurnError => k_is)
    (case xbs_TurnError => k_is)
    (case xty_TurnError => k_is)
    (case xic_TurnError => k_is)
    (case xhg_TurnError => k_is)
    (case xhk_TurnError => k_is)
    (case xhd_TurnError => k_is)
    (case xha_TurnError => k_is)
    (case xhn_TurnError => k_is)
    (case xht_TurnError => k_is)
    (case xhm_TurnError => k_is)
    (case xvs_TurnError => k_is)
    (case g_NoForm => k_is)
    (case xxn_NoForm => k_exc)
    (case xkp_NoForm => k_is)
    (case xbs_NoForm => k_is)
    (case xty_NoForm => k_is)
    (case xic_NoForm => k_is)
    (case xhg_NoForm => k_is)
    (case xhk_NoForm => k_is)
    (case xhd_NoForm => k_is)
    (case xha_NoForm => k_is)
    (case xhn_NoForm => k_is)
    (case xht_NoForm => k_is)
    (case xhm_NoForm => k_is)
    (case xvs_NoForm => k_is)
    (case g_NoBox => k_is)
    (case xxn_NoBox => k_exc)
    (case xkp_NoBox => k_is)
    (case xbs_NoBox => k_is)
    (case xty_NoBox => k_is)
    (case xic_NoBox => k_is)
    (case xhg_NoBox => k_is)
    (case xhk_NoBox => k_is)
    (case xhd_NoBox => k_is)
    (case xha_NoBox => k_is)
    (case xhn_NoBox => k_is)
    (case xht_NoBox => k_is)
    (case xhm_NoBox => k_is)
    (case xvs_NoBox => k_is)
    (case g_NoNames => k_is)
    (case xxn_NoNames => k_exc)
    (case xkp_NoNames => k_is)
    (case xbs_NoNames => k_is)
    (case xty_NoNames => k_is)
    (case xic_NoNames => k_is)
    (case xhg_NoNames => k_is)
    (case xhk_NoNames => k_is)
    (case xhd_NoNames => k_is)
    (case xha_NoNames => k_is)
    (case xhn_NoNames => k_is)
    (case xht_NoNames => k_is)
    (case xhm_NoNames => k_is)
    (case xvs_NoNames => k_is)
    (case g_NoCut => k_is)
    (case xxn_NoCut => k_exc)
    (case xkp_NoCut => k_is)
    (case xbs_NoCut => k_is)
    (case xty_NoCut => k_is)
    (case xic_NoCut => k_is)
    (case xhg_NoCut => k_is)
    (case xhk_NoCut => k_is)
    (case xhd_NoCut => k_is)
    (case xha_NoCut => k_is)
    (case xhn_NoCut => k_is)
    (case xht_NoCut => k_is)
    (case xhm_NoCut => k_is)
    (case xvs_NoCut => k_is)
    (case g_TooMany => k_is)
    (case xxn_TooMany => k_exc)
    (case xkp_TooMany => k_is)
    (case xbs_TooMany => k_is)
    (case xty_TooMany => k_is)
    (case xic_TooMany => k_is)
    (case xhg_TooMany => k_is)
    (case xhk_TooMany => k_is)
    (case xhd_TooMany => k_is)
    (case xha_TooMany => k_is)
    (case xhn_TooMany => k_is)
    (case xht_TooMany => k_is)
    (case xhm_TooMany => k_is)
    (case xvs_TooMany => k_is)
    (case u_TurnError_TurnError => k_is)
    (case u_TurnError_NoForm => k_is)
    (case u_TurnError_NoBox => k_is)
    (case u_TurnError_NoNames => k_is)
    (case u_TurnError_NoCut => k_is)
    (case u_TurnError_TooMany => k_is)
    (case u_NoForm_TurnError => k_is)
    (case u_NoForm_NoForm => k_is)
    (case u_NoForm_NoBox => k_is)
    (case u_NoForm_NoNames => k_is)
    (case u_NoForm_NoCut => k_is)
    (case u_NoForm_TooMany => k_is)
    (case u_NoBox_TurnError => k_is)
    (case u_NoBox_NoForm => k_is)
    (case u_NoBox_NoBox => k_is)
    (case u_NoBox_NoNames => k_is)
    (case u_NoBox_NoCut => k_is)
    (case u_NoBox_TooMany => k_is)
    (case u_NoNames_TurnError => k_is)
    (case u_NoNames_NoForm => k_is)
    (case u_NoNames_NoBox => k_is)
    (case u_NoNames_NoNames => k_is)
    (case u_NoNames_NoCut => k_is)
    (case u_NoNames_TooMany => k_is)
    (case u_NoCut_TurnError => k_is)
    (case u_NoCut_NoForm => k_is)
    (case u_NoCut_NoBox => k_is)
    (case u_NoCut_NoNames => k_is)
    (case u_NoCut_NoCut => k_is)
    (case u_NoCut_TooMany => k_is)
    (case u_TooMany_TurnError => k_is)
    (case u_TooMany_NoForm => k_is)
    (case u_TooMany_NoBox => k_is)
    (case u_TooMany_NoNames => k_is)
    (case u_TooMany_NoCut => k_is)
    (case u_TooMany_TooMany => k_is)
    (case b_len => k_is)
    (case b_range => k_is)
    (case b_int => k_is)
    (case b_abs => k_is)
    (case b_min => k_is)
    (case b_tuple => k_is)
    (case b_sorted => k_is)
    (case b_list => k_is)
    (case b_isinstance => k_is)
    (case b_zip => k_is)
    (case b_bool => k_is)
    (case b_ValueError => k_is)

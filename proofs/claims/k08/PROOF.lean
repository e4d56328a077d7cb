import PyProof.Rows.All
import Wide.All
import OpenK.AllK
import Wide.FinOn
import PyProof.EqAt
import PyProof.EqKinds
import PyProof.TupleCall
import PySem.Challenge.RW_arrowturns_k08_whole_no_turn_changes_the
import HandS.ForMost
import HandS.Evl
import HandS.Exc
import HandS.ExcOwn
import HandS.TryOnly
import HandS.WordsExc
import HandS.IsInst
import HandS.ExcIs
import HandS.HotCalls
import HandS.Wide
import HandS.Zip
import HandS.Conv
import HandS.More
import HandS.Style
import HandS.Deep
import HandS.Walk
import KE.DatumOrd
import KE.DataCmp
import KE.DataMinMax
import KE.SortData
set_option Elab.async false
set_option linter.all false
set_option maxRecDepth 100000
set_option maxHeartbeats 4000000

/-! ## the layer of these proofs: lists of lists, what a reading tells of them -/
namespace AT
open PySem PySem.Spec PyProof.Rows L2 Evl
abbrev St := L2.St
abbrev Frag := PySem.W.Frag

theorem bfF {p : Prop} (h : ¬ p) : (false = true ↔ p) := ⟨fun z => (Bool.false_ne_true z).elim, fun z => (h z).elim⟩
theorem bfT {p : Prop} (h : p) : (true = true ↔ p) := ⟨fun _ => h, fun _ => rfl⟩
/-- whether p holds -/
noncomputable def dec (p : Prop) : Bool := @decide p (Classical.propDecidable p)
theorem dec_eq {b : Bool} {p : Prop} (h : b = true ↔ p) : b = dec p := by
  unfold dec
  cases b with
  | true => exact (@decide_eq_true p (Classical.propDecidable p) (h.mp rfl)).symm
  | false => exact (@decide_eq_false p (Classical.propDecidable p) fun z => Bool.false_ne_true (h.mpr z)).symm
theorem dec_true {p : Prop} (h : p) : dec p = true := (dec_eq (bfT h)).symm
theorem dec_false {p : Prop} (h : ¬ p) : dec p = false := (dec_eq (bfF h)).symm
theorem of_dec {p : Prop} (h : dec p = true) : p := Classical.byContradiction fun z => by
  rw [dec_false z] at h
  exact Bool.false_ne_true h
theorem of_dec_f {p : Prop} (h : dec p = false) : ¬ p := fun z => by
  rw [dec_true z] at h
  exact Bool.noConfusion h
/-! ### lists of ints, of lists of ints -/
def LI (K : Frag) (H : Hp) (a : Addr) (xs : List Int) : Prop := SqL K H a (xs.map V.int)
def LLI (K : Frag) (H : Hp) (a : Addr) (M : List (List Int)) : Prop := ∃ as : List Addr, SqL K H a (as.map V.ref) ∧ Paired (fun x r => LI K H x r) as M
/-- of our own making: behind H0 -/
def OLI (H0 H : Hp) (a : Addr) (xs : List Int) : Prop := H0 a = none ∧ H a = some (.lst (xs.map V.int))
def OLLI (H0 H : Hp) (a : Addr) (M : List (List Int)) : Prop := ∃ as : List Addr, H0 a = none ∧ H a = some (.lst (as.map V.ref)) ∧ (a :: as).Nodup ∧ Paired (fun x r => OLI H0 H x r) as M

theorem paired_mono {α β : Type} {F G : α → β → Prop} : ∀ {l₁ : List α} {l₂ : List β}, Paired F l₁ l₂ → (∀ a b, F a b → G a b) → Paired G l₁ l₂
  | _, _, .nil, _ => .nil
  | _, _, .cons r t, f => .cons (f _ _ r) (paired_mono t f)
theorem paired_mem_mono {α β : Type} {F G : α → β → Prop} : ∀ {l₁ : List α} {l₂ : List β}, Paired F l₁ l₂ → (∀ a b, a ∈ l₁ → F a b → G a b) → Paired G l₁ l₂
  | _, _, .nil, _ => .nil
  | _, _, .cons r t, f => .cons (f _ _ List.mem_cons_self r) (paired_mem_mono t fun a b h => f a b (List.mem_cons_of_mem _ h))
theorem paired_get {α β : Type} {F : α → β → Prop} : ∀ {l₁ : List α} {l₂ : List β} {i : Nat} {y : β}, Paired F l₁ l₂ → l₂[i]? = some y → ∃ x, l₁[i]? = some x ∧ F x y
  | _, _, _, _, .nil, e => by simp at e
  | _, _, 0, _, .cons r _, e => by simp at e; subst e; exact ⟨_, rfl, r⟩
  | _, _, i + 1, y, .cons _ t, e => by
    obtain ⟨u, h1, h2⟩ := paired_get (i := i) (y := y) t (by simpa using e)
    exact ⟨u, by simpa using h1, h2⟩
theorem paired_getL {α β : Type} {F : α → β → Prop} : ∀ {l₁ : List α} {l₂ : List β} {i : Nat} {x : α}, Paired F l₁ l₂ → l₁[i]? = some x → ∃ y, l₂[i]? = some y ∧ F x y
  | _, _, _, _, .nil, e => by simp at e
  | _, _, 0, _, .cons r _, e => by simp at e; subst e; exact ⟨_, rfl, r⟩
  | _, _, i + 1, y, .cons _ t, e => by
    obtain ⟨u, h1, h2⟩ := paired_getL (i := i) (x := y) t (by simpa using e)
    exact ⟨u, by simpa using h1, h2⟩
theorem paired_append {α β : Type} {F : α → β → Prop} : ∀ {l₁ k₁ : List α} {l₂ k₂ : List β}, Paired F l₁ l₂ → Paired F k₁ k₂ → Paired F (l₁ ++ k₁) (l₂ ++ k₂)
  | _, _, _, _, .nil, h => h
  | _, _, _, _, .cons r t, h => .cons r (paired_append t h)
theorem paired_mem {α β : Type} {F : α → β → Prop} : ∀ {l₁ : List α} {l₂ : List β} {x : α}, Paired F l₁ l₂ → x ∈ l₁ → ∃ y, y ∈ l₂ ∧ F x y
  | _, _, _, .nil, e => by cases e
  | _, _, _, .cons r t, e => by
    rcases List.mem_cons.mp e with rfl | e
    · exact ⟨_, List.mem_cons_self, r⟩
    · obtain ⟨y, h1, h2⟩ := paired_mem t e
      exact ⟨y, List.mem_cons_of_mem _ h1, h2⟩
theorem paired_of {α β : Type} {F : α → β → Prop} : ∀ {l₁ : List α} {l₂ : List β}, l₁.length = l₂.length → (∀ (i : Nat) x y, l₁[i]? = some x → l₂[i]? = some y → F x y) → Paired F l₁ l₂
  | [], [], _, _ => .nil
  | [], _ :: _, h, _ => by simp at h
  | _ :: _, [], h, _ => by simp at h
  | a :: l₁, b :: l₂, h, f => .cons (f 0 a b rfl rfl) (paired_of (by simpa using h) fun i x y h1 h2 => f (i + 1) x y (by simpa using h1) (by simpa using h2))
theorem paired_set {α β : Type} {F : α → β → Prop} {x : α} {y : β} (r : F x y) : ∀ {l₁ : List α} {l₂ : List β} (i : Nat), Paired F l₁ l₂ → Paired F (l₁.set i x) (l₂.set i y)
  | _, _, _, .nil => .nil
  | _, _, 0, .cons _ t => .cons r t
  | _, _, i + 1, .cons q t => .cons q (paired_set r i t)
theorem paired_drop {α β : Type} {F : α → β → Prop} : ∀ {l₁ : List α} {l₂ : List β} (n : Nat), Paired F l₁ l₂ → Paired F (l₁.drop n) (l₂.drop n)
  | _, _, 0, r => r
  | _, _, _ + 1, .nil => .nil
  | _, _, n + 1, .cons _ t => paired_drop n t
theorem paired_dropLast {α β : Type} {F : α → β → Prop} : ∀ {l₁ : List α} {l₂ : List β}, Paired F l₁ l₂ → Paired F l₁.dropLast l₂.dropLast
  | _, _, .nil => .nil
  | _, _, .cons _ .nil => .nil
  | _, _, .cons r (.cons q t) => .cons r (paired_dropLast (.cons q t))
theorem paired_map {α β γ δ : Type} {F : γ → δ → Prop} {f : α → γ} {g : β → δ} {G : α → β → Prop} (h : ∀ a b, G a b → F (f a) (g b)) : ∀ {l₁ : List α} {l₂ : List β}, Paired G l₁ l₂ → Paired F (l₁.map f) (l₂.map g)
  | _, _, .nil => .nil
  | _, _, .cons r t => .cons (h _ _ r) (paired_map h t)

section
variable {K : Frag} {H H0 H1 H' : Hp} {a p r : Addr} {M : List (List Int)} {xs : List Int}
theorem LI.mono (e : Ex H H') (h : LI K H a xs) : LI K H' a xs := ex_l e h
theorem LLI.mono (e : Ex H H') (h : LLI K H a M) : LLI K H' a M := by
  obtain ⟨as, h1, h2⟩ := h
  exact ⟨as, ex_l e h1, paired_mono h2 fun _ _ q => q.mono e⟩
theorem OLI.li (h : OLI H0 H a xs) : LI K H a xs := sq_of h.2
theorem OLLI.lli (h : OLLI H0 H a M) : LLI K H a M := by
  obtain ⟨as, _, h1, _, h2⟩ := h
  exact ⟨as, sq_of h1, paired_mono h2 fun _ _ q => q.li⟩
theorem OLI.mono (e : Ex H H') (h : OLI H0 H a xs) : OLI H0 H' a xs := ⟨h.1, e _ _ h.2⟩
theorem OLLI.mono (e : Ex H H') (h : OLLI H0 H a M) : OLLI H0 H' a M := by
  obtain ⟨as, h0, h1, hn, h2⟩ := h
  exact ⟨as, h0, e _ _ h1, hn, paired_mono h2 fun _ _ q => q.mono e⟩
/-- fresh ahead of more is fresh ahead of less -/
theorem OLI.back (e : Ex H0 H1) (h : OLI H1 H a xs) : OLI H0 H a xs := ⟨fresh_back e h.1, h.2⟩
theorem OLLI.back (e : Ex H0 H1) (h : OLLI H1 H a M) : OLLI H0 H a M := by
  obtain ⟨as, h0, h1, hn, h2⟩ := h
  exact ⟨as, fresh_back e h0, h1, hn, paired_mono h2 fun _ _ q => q.back e⟩
theorem OLLI.fresh (h : OLLI H0 H a M) : H0 a = none := by
  obtain ⟨as, h0, _⟩ := h
  exact h0
theorem OLLI.nil (h0 : H0 a = none) (h : H a = some (.lst [])) : OLLI H0 H a [] := ⟨[], h0, h, by simp, .nil⟩
/-- a row made behind Hb goes to the end -/
theorem OLLI.push {Hb Hc : Hp} {row : List Int} (h : OLLI H0 Hb p M) (e0 : Ex H0 Hb) (e : Ex Hb Hc) (hr : Hb r = none) (hrow : Hc r = some (.lst (row.map V.int))) :
    ∃ vs : List V, Hc p = some (.lst vs) ∧ vs.length = M.length ∧ OLLI H0 (upd Hc p (.lst (vs ++ [.ref r]))) p (M ++ [row]) ∧ Ex H0 (upd Hc p (.lst (vs ++ [.ref r]))) := by
  obtain ⟨as, h0, h1, hn, h2⟩ := h
  have hpr : p ≠ r := ne_of_none h1 hr
  have hnr : r ∉ as := fun hm => by
    obtain ⟨y, _, q⟩ := paired_mem h2 hm
    have := q.2
    rw [hr] at this; cases this
  rw [List.nodup_cons] at hn
  refine ⟨as.map V.ref, e _ _ h1, by rw [List.length_map, h2.length], ⟨as ++ [r], h0, ?_, ?_, paired_append (paired_mem_mono h2 fun x y hx q => ⟨q.1, ?_⟩) (.cons ⟨fresh_back e0 hr, ?_⟩ .nil)⟩, Ex.mut (e0.trans e) h0⟩
  · rw [upd_same, List.map_append]; rfl
  · rw [List.nodup_cons]
    refine ⟨fun hm => ?_, ?_⟩
    · rcases List.mem_append.mp hm with hm | hm
      · exact hn.1 hm
      · exact hpr (by simpa using hm)
    · rw [List.nodup_append]
      exact ⟨hn.2, by simp, fun x hx y hy => by
        have : y = r := by simpa using hy
        subst this
        exact fun z => hnr (z ▸ hx)⟩
  · rw [upd_ne (fun z : x = p => hn.1 (z ▸ hx))]; exact e _ _ q.2
  · rw [upd_ne hpr.symm]; exact hrow
end

/-! ### forms: n boxes, f their numbers -/
def Fm (n : Nat) (f : Nat → Nat → Int) : List (List Int) := (List.range n).map fun i => (List.range n).map (f i)
theorem range_get {n i : Nat} (h : i < n) : (List.range n)[i]? = some i := by rw [List.getElem?_range h]
theorem mapr_get {α : Type} {n i : Nat} {f : Nat → α} (h : i < n) : ((List.range n).map f)[i]? = some (f i) := by rw [List.getElem?_map, range_get h]; rfl
theorem fm_get {n i : Nat} {f : Nat → Nat → Int} (h : i < n) : (Fm n f)[i]? = some ((List.range n).map (f i)) := mapr_get h
theorem fm_len {n : Nat} {f : Nat → Nat → Int} : (Fm n f).length = n := by unfold Fm; rw [List.length_map, List.length_range]
theorem mapr_ext {α : Type} {n : Nat} {f g : Nat → α} (h : ∀ i, i < n → f i = g i) : (List.range n).map f = (List.range n).map g := List.map_congr_left fun i hi => h i (List.mem_range.mp hi)
theorem fm_ext {n : Nat} {f g : Nat → Nat → Int} (h : ∀ i j, i < n → j < n → f i j = g i j) : Fm n f = Fm n g := mapr_ext fun i hi => mapr_ext fun j hj => h i j hi hj
theorem mapr_inj {α : Type} {n m : Nat} {f g : Nat → α} (h : (List.range n).map f = (List.range m).map g) : n = m ∧ ∀ i, i < n → f i = g i := by
  have e : n = m := by simpa using congrArg List.length h
  subst e
  refine ⟨rfl, fun i hi => ?_⟩
  have := congrArg (·[i]?) h
  simp only [mapr_get hi] at this
  exact Option.some.inj this
theorem fm_inj {n m : Nat} {f g : Nat → Nat → Int} (h : Fm n f = Fm m g) : n = m ∧ ∀ i j, i < n → j < n → f i j = g i j := by
  obtain ⟨e, q⟩ := mapr_inj h
  exact ⟨e, fun i j hi hj => (mapr_inj (q i hi)).2 j hj⟩

section
variable {K : Frag} {σ : St} {H H0 H1 H' : Hp} {ta tb te ti tj : TE} {a p r : Addr} {M : List (List Int)} {xs : List Int} {x y z v : V}
theorem LLI.row (h : LLI K H a M) {i : Nat} {row : List Int} (e : M[i]? = some row) : ∃ (as : List Addr) (x : Addr), SqL K H a (as.map V.ref) ∧ as.length = M.length ∧ as[i]? = some x ∧ LI K H x row := by
  obtain ⟨as, h1, h2⟩ := h
  obtain ⟨x, e1, q⟩ := paired_get h2 e
  exact ⟨as, x, h1, h2.length, e1, q⟩
theorem atI_n {α : Type} {xs : List α} {i : Nat} {v : α} (h : xs[i]? = some v) : atI xs (i : Int) = some v := by
  unfold atI
  rw [ixN_nat (List.getElem?_eq_some_iff.mp h).1]
  exact h
theorem LI.at {i : Nat} {v : Int} (h : LI K H a xs) (e : xs[i]? = some v) : RV (rIxL K) (.ref a) (.int (i : Int)) H (.int v) := rv_ixL h (atI_n (by rw [List.getElem?_map, e]; rfl))
theorem ev_item {i : Nat} {v : Int} (ha : Ev ta σ H (.ref a)) (hi : Ev ti σ H (.int (i : Int))) (h : LI K H a xs) (e : xs[i]? = some v) : Ev (tOp (rIxL K) ta ti) σ H (.int v) := ev_op ha hi (h.at e)
theorem ev_cell {i j : Nat} {row : List Int} {v : Int} (ha : Ev ta σ H (.ref a)) (hi : Ev ti σ H (.int (i : Int))) (hj : Ev tj σ H (.int (j : Int))) (h : LLI K H a M) (e1 : M[i]? = some row) (e2 : row[j]? = some v) :
    Ev (tOp (rIxL K) (tOp (rIxL K) ta ti) tj) σ H (.int v) := by
  obtain ⟨as, x, h1, _, h3, h4⟩ := h.row e1
  exact ev_op (ev_op ha hi (rv_ixL h1 (atI_n (by rw [List.getElem?_map, h3]; rfl)))) hj (h4.at e2)
theorem ev_fm {n i j : Nat} {f : Nat → Nat → Int} (ha : Ev ta σ H (.ref a)) (hi : Ev ti σ H (.int (i : Int))) (hj : Ev tj σ H (.int (j : Int))) (h : LLI K H a (Fm n f)) (e1 : i < n) (e2 : j < n) :
    Ev (tOp (rIxL K) (tOp (rIxL K) ta ti) tj) σ H (.int (f i j)) := ev_cell ha hi hj h (fm_get e1) (mapr_get e2)
theorem ev_mod {i j : Int} (ha : Ev ta σ H (.int i)) (hb : Ev tb σ H (.int j)) (hj : 0 < j) : Ev (tOp (rI (fun _ j => j ≠ 0) fun i j => .int (i.fmod j)) ta tb) σ H (.int (i % j)) :=
  ev_op ha hb (by rw [← Int.fmod_eq_emod_of_nonneg i (Int.le_of_lt hj)]; exact rv_I (by omega))
theorem ev_div {i j : Int} (ha : Ev ta σ H (.int i)) (hb : Ev tb σ H (.int j)) (hj : 0 < j) (h2 : j < 1073741824) : Ev (tOp (rI CDivN fun i j => .int (i.fdiv j)) ta tb) σ H (.int (i / j)) :=
  ev_op ha hb (by rw [← Int.fdiv_eq_ediv_of_nonneg i (Int.le_of_lt hj)]; exact rv_I ⟨by omega, by omega⟩)
theorem ev_len1 {vs : List V} {r : List V → Hp → VK → Prop} (ha : Ev ta σ H (.ref a)) (h : SqL K H a vs) (hr : r = fun xs H Q => ∃ p ys, xs = [.ref p] ∧ (SqL K H p ys ∨ SqT K H p ys) ∧ Q (.int ys.length) H) : Ev (tCB r (tCons ta tNil)) σ H (.int (vs.length : Int)) := by
  subst hr
  exact ev_len ha h
theorem ev_lenLLI (ha : Ev ta σ H (.ref a)) (h : LLI K H a M) : Ev (tCB (rLenS K) (tCons ta tNil)) σ H (.int (M.length : Int)) := by
  obtain ⟨as, h1, h2⟩ := h
  have e := ev_len ha h1
  rw [List.length_map, h2.length] at e
  exact e
theorem ev_lenFm {n : Nat} {f : Nat → Nat → Int} (ha : Ev ta σ H (.ref a)) (h : LLI K H a (Fm n f)) : Ev (tCB (rLenS K) (tCons ta tNil)) σ H (.int (n : Int)) := by
  have e := ev_lenLLI ha h
  rw [fm_len] at e
  exact e
theorem ev_lenLI (ha : Ev ta σ H (.ref a)) (h : LI K H a xs) : Ev (tCB (rLenS K) (tCons ta tNil)) σ H (.int (xs.length : Int)) := by
  have e := ev_len ha h
  rw [List.length_map] at e
  exact e
def rAbs : List V → Hp → VK → Prop := fun xs H Q => ∃ i, xs = [.int i] ∧ Q (.int (if i < 0 then -i else i)) H
theorem ev_abs {i : Int} (ha : Ev ta σ H (.int i)) : Ev (tCB rAbs (tCons ta tNil)) σ H (.int (if i < 0 then -i else i)) := fun H1 e Q q =>
  ha H1 e _ fun H2 e2 => ⟨i, rfl, q H2 e2⟩
/-- a call of a def whose promise is told by its value -/
theorem ev_cast {w : V} (h : Ev te σ H v) (e : v = w) : Ev te σ H w := e ▸ h
end

/-! ### what is new: relations of the heap ahead, the heap behind and the value -/
abbrev R3 := Hp → Hp → V → Prop
def Er (te : TE) (σ : St) (H : Hp) (R : R3) : Prop := ∀ H1, Ex H H1 → ∀ Q : VK, (∀ v H2, Ex H1 H2 → R H1 H2 v → Q v H2) → te σ H1 Q
/-- a new list of lists of ints -/
def RM (M : List (List Int)) : R3 := fun H1 H2 v => ∃ p, v = .ref p ∧ OLLI H1 H2 p M
def RL (xs : List Int) : R3 := fun H1 H2 v => ∃ p, v = .ref p ∧ OLI H1 H2 p xs
structure Mon (R : R3) : Prop where
  up : ∀ {H1 H2 H3 v}, Ex H2 H3 → R H1 H2 v → R H1 H3 v
  dn : ∀ {H0 H1 H2 v}, Ex H0 H1 → R H1 H2 v → R H0 H2 v
theorem mon_RM {M : List (List Int)} : Mon (RM M) := ⟨fun e ⟨p, h, q⟩ => ⟨p, h, q.mono e⟩, fun e ⟨p, h, q⟩ => ⟨p, h, q.back e⟩⟩
theorem mon_RL {xs : List Int} : Mon (RL xs) := ⟨fun e ⟨p, h, q⟩ => ⟨p, h, q.mono e⟩, fun e ⟨p, h, q⟩ => ⟨p, h, q.back e⟩⟩
section
variable {K : Frag} {σ : St} {H H0 H1 H' : Hp} {ta tb te ti tj : TE} {t : TT} {a p r : Addr} {M : List (List Int)} {xs : List Int} {x y z v : V} {R : R3} {D : Ends}
theorem Er.mono (e : Ex H H') (h : Er te σ H R) : Er te σ H' R := fun H1 a Q q => h H1 (e.trans a) Q q
theorem er_of_evl (h : EvL te σ H (xs.map V.int)) : Er te σ H (RL xs) := fun H1 e Q q => h H1 e Q fun p H2 hp e2 h2 => q _ H2 e2 ⟨p, rfl, hp, h2⟩
theorem evl_of_er (h : Er te σ H (RL xs)) : EvL te σ H (xs.map V.int) := fun H1 e Q q => h H1 e Q fun v H2 e2 ⟨p, hv, h1, h2⟩ => by subst hv; exact q p H2 h1 e2 h2
theorem sr_asg {i : Nat} (h : Er te σ H R) (k : ∀ v H1, Ex H H1 → R H H1 v → D.nx (σ.set i (some v)) H1) : tAsg te (gName i) D σ H := h H (Ex.refl H) _ k
theorem qr_asg {i : Nat} {tz : TS} (h : Er te σ H R) (k : ∀ v H1, Ex H H1 → R H H1 v → tz D (σ.set i (some v)) H1) : tSeq (tAsg te (gName i)) tz D σ H := sr_asg (D := { D with nx := tz D }) h k
theorem sr_ret (h : Er te σ H R) (k : ∀ v H1, Ex H H1 → R H H1 v → D.rt v H1) : tRet te D σ H := h H (Ex.refl H) _ k
/-- a promise of a new thing -/
def SpR (sp : Sp) (vs : List V) (H : Hp) (R : R3) : Prop := ∀ H1, Ex H H1 → ∀ Q : VK, (∀ v H2, Ex H1 H2 → R H1 H2 v → Q v H2) → ∀ E : XK, sp vs H1 Q E
theorem er_call {sp : Sp} {dvs vs : List V} {E : XK} {ta : TA} (mR : Mon R) (h : EvA ta σ H vs) (hs : SpR sp (vs ++ dvs) H R) : Er (tCall sp dvs E ta) σ H R := fun H1 e Q q =>
  h H1 e _ fun H2 e2 => hs H2 (e.trans e2) Q (fun v H3 e3 r => q v H3 (e2.trans e3) (mR.dn e2 r)) E

/-! ### comprehensions whose items are new -/
/-- R is not touched by a change of what was there ahead -/
structure Mon' (R : R3) : Prop extends Mon R where
  chg : ∀ {H1 H2 v Dl o}, H1 Dl ≠ none → R H1 H2 v → R H1 (upd H2 Dl o) v
theorem ne_fresh {H1 : Hp} {p Dl : Addr} (hd : H1 Dl ≠ none) (hp : H1 p = none) : p ≠ Dl := fun z => hd (z ▸ hp)
theorem mon'_RL {xs : List Int} : Mon' (RL xs) := { mon_RL with
  chg := fun hd ⟨p, h, q⟩ => ⟨p, h, q.1, by rw [upd_ne (ne_fresh hd q.1)]; exact q.2⟩ }
theorem mon'_RM {M : List (List Int)} : Mon' (RM M) := { mon_RM with
  chg := fun hd ⟨p, h, as, h0, h1, hn2, h2⟩ => ⟨p, h, as, h0, by rw [upd_ne (ne_fresh hd h0)]; exact h1, hn2, paired_mono h2 fun x r q => ⟨q.1, by rw [upd_ne (ne_fresh hd q.1)]; exact q.2⟩⟩ }
/-- a value that is no heap's -/
def RV0 (u : V) : R3 := fun _ _ v => v = u
theorem mon'_RV0 {u : V} : Mon' (RV0 u) := ⟨⟨fun _ h => h, fun _ h => h⟩, fun _ h => h⟩
theorem er_of_ev (h : Ev te σ H v) : Er te σ H (RV0 v) := fun H1 e Q q => h H1 e Q fun H2 e2 => q v H2 e2 rfl
/-- a new tuple of such values -/
def RT (vs : List V) : R3 := fun H1 H2 v => ∃ p, v = .ref p ∧ H1 p = none ∧ H2 p = some (.tup vs)
theorem mon'_RT {vs : List V} : Mon' (RT vs) := ⟨⟨fun e ⟨p, h, h0, h1⟩ => ⟨p, h, h0, e _ _ h1⟩, fun e ⟨p, h, h0, h1⟩ => ⟨p, h, fresh_back e h0, h1⟩⟩, fun hd ⟨p, h, h0, h1⟩ => ⟨p, h, h0, by rw [upd_ne (ne_fresh hd h0)]; exact h1⟩⟩
theorem er_of_evu {vs : List V} (h : EvU te σ H vs) : Er te σ H (RT vs) := fun H1 e Q q => h H1 e Q fun p H2 hp e2 h2 => q _ H2 e2 ⟨p, rfl, hp, h2⟩

/-- what is made so far: vs, each as R says of its turn -/
def Cr (H : Hp) (f : Nat → Bool) (R : Nat → R3) (Dl : Addr) (i : Nat) (H' : Hp) : Prop := H Dl = none ∧ Ex H H' ∧ ∃ vs : List V, H' Dl = some (.lst vs) ∧ Paired (fun v j => ∃ H3, Ex H H3 ∧ H3 Dl ≠ none ∧ R j H3 H' v) vs ((List.range i).filter f)
/-- a new list whose items are as R says, one for each of idx -/
def RLs (idx : List Nat) (R : Nat → R3) : R3 := fun H1 H2 v => ∃ p vs, v = .ref p ∧ H1 p = none ∧ H2 p = some (.lst vs) ∧ Paired (fun v j => R j H1 H2 v) vs idx
theorem filt_len (f : Nat → Bool) (i : Nat) : ((List.range i).filter f).length ≤ i := by
  have h := List.length_filter_le f (List.range i)
  rw [List.length_range] at h
  exact h
theorem filt_yes {f : Nat → Bool} {i : Nat} (h : f i = true) : (List.range (i + 1)).filter f = (List.range i).filter f ++ [i] := by
  rw [List.range_succ, List.filter_append, List.filter_cons, if_pos h]; rfl
theorem filt_no {f : Nat → Bool} {i : Nat} (h : f i = false) : (List.range (i + 1)).filter f = (List.range i).filter f := by
  rw [List.range_succ, List.filter_append, List.filter_cons, if_neg (by rw [h]; decide)]
  exact List.append_nil _
theorem filt_all (i : Nat) : (List.range i).filter (fun _ => true) = List.range i := by rw [List.filter_eq_self]; intros; rfl
theorem cr_turn {H H' : Hp} {f : Nat → Bool} {R : Nat → R3} {Dl : Addr} {i : Nat} {σ2 : L2.St} (mR : ∀ j, Mon' (R j)) (p : Cr H f R Dl i H') (hi : i < 50000) (ht : EvT t σ2 H (f i)) (he : f i = true → Er te σ2 H (R i)) :
    t σ2 H' fun b H3 => if b = true then te σ2 H3 fun y H4 => ∃ acc, H4 Dl = some (.lst acc) ∧ acc.length < sizeLine ∧ Cr H f R Dl (i + 1) (upd H4 Dl (.lst (acc ++ [y]))) else Cr H f R Dl (i + 1) H3 := by
  obtain ⟨p1, p2, vs, p3, p4⟩ := p
  refine ht H' p2 _ fun H3 e3 => ?_
  cases hf : f i with
  | true =>
    show te σ2 H3 fun y H4 => ∃ acc, H4 Dl = some (.lst acc) ∧ acc.length < sizeLine ∧ Cr H f R Dl (i + 1) (upd H4 Dl (.lst (acc ++ [y])))
    refine he hf H3 (p2.trans e3) _ fun v H4 e4 r => ⟨vs, e4 Dl _ (e3 Dl _ p3), sz_lt (by have := filt_len f i; rw [← p4.length] at this; omega), p1, Ex.mut ((p2.trans e3).trans e4) p1, vs ++ [v], upd_same, ?_⟩
    rw [filt_yes hf]
    have nd : H3 Dl ≠ none := by rw [e3 Dl _ p3]; exact fun z => nomatch z
    exact paired_append (paired_mono p4 fun v j ⟨Hz, z1, z2, z3⟩ => ⟨Hz, z1, z2, (mR j).chg z2 ((mR j).up (e3.trans e4) z3)⟩) (.cons ⟨H3, p2.trans e3, nd, (mR i).chg nd r⟩ .nil)
  | false =>
    show Cr H f R Dl (i + 1) H3
    refine ⟨p1, p2.trans e3, vs, e3 Dl _ p3, ?_⟩
    rw [filt_no hf]
    exact paired_mono p4 fun v j ⟨Hz, z1, z2, z3⟩ => ⟨Hz, z1, z2, (mR j).up e3 z3⟩
theorem cr_end {H1 H' : Hp} {f : Nat → Bool} {R : Nat → R3} {Dl : Addr} {n : Nat} (mR : ∀ j, Mon' (R j)) (e1 : Ex H H1) (p : Cr H1 f R Dl n H') : Ex H H' ∧ RLs ((List.range n).filter f) R H H' (.ref Dl) := by
  obtain ⟨p1, p2, vs, p3, p4⟩ := p
  exact ⟨e1.trans p2, Dl, vs, rfl, fresh_back e1 p1, p3, paired_mono p4 fun v j ⟨Hz, z1, z2, z3⟩ => (mR j).dn (e1.trans z1) z3⟩
/-- [te for j in range(n) if t] -/
theorem er_lcR {ta : TA} {j : Nat} {vs : List Nat} {n : Int} (f : Nat → Bool) (R : Nat → R3) (mR : ∀ j, Mon' (R j)) (h : EvA ta σ H [.int n]) (hn : 0 ≤ n ∧ n ≤ 40000) (hw : ∀ x, wipe ((wipe σ vs).set j (some x)) vs = wipe σ vs)
    (ht : ∀ (i : Nat) H1, Ex H H1 → (i : Int) < n → EvT t ((wipe σ vs).set j (some (.int (i : Int)))) H1 (f i)) (he : ∀ (i : Nat) H1, Ex H H1 → (i : Int) < n → f i = true → Er te ((wipe σ vs).set j (some (.int (i : Int)))) H1 (R i)) :
    Er (tLc (iRng1 ta) (gName j) t te vs) σ H (RLs ((List.range n.toNat).filter f) R) := fun H0 e Q q => h H0 e _ fun H1 e1 => ⟨n, rfl, by omega, by omega, fun Dl hD =>
  lc_range (lo := 0) (n := n.toNat) (Cr H1 f R Dl) ⟨hD, Ex.new hD, [], upd_same, .nil⟩ (fun i H' hi p => by
    have e0 : (0 : Int) + (i : Int) = (i : Int) := Int.zero_add _
    rw [e0]
    exact ⟨hw _, cr_turn mR p (by omega) (ht i H1 (e.trans e1) (by omega)) (fun hf => he i H1 (e.trans e1) (by omega) hf)⟩) (fun H' p => by
    obtain ⟨q1, q2⟩ := cr_end mR e1 p
    exact q _ H' q1 q2)⟩
/-- over a list that stands -/
theorem er_lcL {a : Addr} {xs : List V} {tl : TE} {j : Nat} {vs : List Nat} (f : Nat → Bool) (R : Nat → R3) (mR : ∀ j, Mon' (R j)) (h : Ev tl σ H (.ref a)) (hx : SqL K H a xs) (hz : xs.length ≤ 40000) (hw : ∀ x, wipe ((wipe σ vs).set j (some x)) vs = wipe σ vs)
    (ht : ∀ (i : Nat) (x : V) H1, Ex H H1 → xs[i]? = some x → EvT t ((wipe σ vs).set j (some x)) H1 (f i)) (he : ∀ (i : Nat) (x : V) H1, Ex H H1 → xs[i]? = some x → f i = true → Er te ((wipe σ vs).set j (some x)) H1 (R i)) :
    Er (tLc (iList K tl) (gName j) t te vs) σ H (RLs ((List.range xs.length).filter f) R) := fun H0 e Q q => h H0 e _ fun H1 e1 => ⟨a, rfl, ⟨xs, ex_l (e.trans e1) hx⟩, fun Dl hD =>
  lc_list (xs := xs) (Cr H1 f R Dl) ⟨hD, Ex.new hD, [], upd_same, .nil⟩ (fun i H' _ p => ex_l ((e.trans e1).trans p.2.1) hx) (fun i x H' hi p => ⟨hw x, cr_turn mR p (by have := (List.getElem?_eq_some_iff.mp hi).1; omega) (ht i x H1 (e.trans e1) hi) (fun hf => he i x H1 (e.trans e1) hi hf)⟩)
    (fun H' p => by
      obtain ⟨q1, q2⟩ := cr_end mR e1 p
      exact q _ H' q1 q2)⟩
/-- over a list that the reading makes -/
theorem er_lcN {R0 : R3} {tl : TE} {j n : Nat} {vs : List Nat} (f : Nat → Bool) (R : Nat → R3) (mR : ∀ j, Mon' (R j)) (h : Er tl σ H R0) (hz : n ≤ 40000) (hw : ∀ x, wipe ((wipe σ vs).set j (some x)) vs = wipe σ vs)
    (hs : ∀ H1 H2 v, Ex H H1 → Ex H1 H2 → R0 H1 H2 v → ∃ a xs, v = .ref a ∧ SqL K H2 a xs ∧ xs.length = n ∧ ∀ (i : Nat) x H3, xs[i]? = some x → Ex H2 H3 → EvT t ((wipe σ vs).set j (some x)) H3 (f i) ∧ (f i = true → Er te ((wipe σ vs).set j (some x)) H3 (R i))) :
    Er (tLc (iList K tl) (gName j) t te vs) σ H (RLs ((List.range n).filter f) R) := fun H0 e Q q => h H0 e _ fun v H1 e1 r => by
  obtain ⟨a, xs, ev, hx, hn, hi⟩ := hs H0 H1 v e e1 r
  subst ev
  subst hn
  exact ⟨a, rfl, ⟨xs, hx⟩, fun Dl hD =>
    lc_list (xs := xs) (Cr H1 f R Dl) ⟨hD, Ex.new hD, [], upd_same, .nil⟩ (fun i H' _ p => ex_l p.2.1 hx) (fun i x H' hj p => ⟨hw x, cr_turn mR p (by have := (List.getElem?_eq_some_iff.mp hj).1; omega) ((hi i x H1 hj (Ex.refl _)).1) (fun hf => (hi i x H1 hj (Ex.refl _)).2 hf)⟩)
      (fun H' p => by
        obtain ⟨q1, q2⟩ := cr_end mR e1 p
        exact q _ H' q1 q2)⟩

/-! ### a list of new rows -/
def Cm (H : Hp) (g : Nat → List Int) (Dl : Addr) (i : Nat) (H' : Hp) : Prop := Ex H H' ∧ OLLI H H' Dl ((List.range i).map g)
theorem cm_turn {H H' : Hp} {g : Nat → List Int} {Dl : Addr} {i : Nat} {σ2 : L2.St} (p : Cm H g Dl i H') (hi : i < 50000) (he : Er te σ2 H (RL (g i))) :
    tYes σ2 H' fun b H3 => if b = true then te σ2 H3 fun y H4 => ∃ acc, H4 Dl = some (.lst acc) ∧ acc.length < sizeLine ∧ Cm H g Dl (i + 1) (upd H4 Dl (.lst (acc ++ [y]))) else Cm H g Dl (i + 1) H3 := by
  obtain ⟨p1, p2⟩ := p
  show te σ2 H' fun y H4 => ∃ acc, H4 Dl = some (.lst acc) ∧ acc.length < sizeLine ∧ Cm H g Dl (i + 1) (upd H4 Dl (.lst (acc ++ [y])))
  refine he H' p1 _ fun v H4 e4 ⟨r, hv, hr1, hr2⟩ => ?_
  subst hv
  obtain ⟨vs, h1, h2, h3, h4⟩ := p2.push p1 e4 hr1 hr2
  refine ⟨vs, h1, sz_lt (by rw [h2, List.length_map, List.length_range]; omega), h4, ?_⟩
  rw [List.range_succ, List.map_append]
  exact h3
theorem em_lcR {ta : TA} {j : Nat} {vs : List Nat} {n : Int} (g : Nat → List Int) (h : EvA ta σ H [.int n]) (hn : 0 ≤ n ∧ n ≤ 40000) (hw : ∀ x, wipe ((wipe σ vs).set j (some x)) vs = wipe σ vs)
    (he : ∀ (i : Nat) H1, Ex H H1 → (i : Int) < n → Er te ((wipe σ vs).set j (some (.int (i : Int)))) H1 (RL (g i))) :
    Er (tLc (iRng1 ta) (gName j) tYes te vs) σ H (RM ((List.range n.toNat).map g)) := fun H0 e Q q => h H0 e _ fun H1 e1 => ⟨n, rfl, by omega, by omega, fun Dl hD =>
  lc_range (lo := 0) (n := n.toNat) (Cm H1 g Dl) ⟨Ex.new hD, .nil hD upd_same⟩ (fun i H' hi p => by
    have e0 : (0 : Int) + (i : Int) = (i : Int) := Int.zero_add _
    rw [e0]
    exact ⟨hw _, cm_turn p (by omega) (he i H1 (e.trans e1) (by omega))⟩) (fun H' p => q _ H' (e1.trans p.1) ⟨Dl, rfl, p.2.back e1⟩)⟩
theorem em_lcL {a : Addr} {xs : List V} {tl : TE} {j : Nat} {vs : List Nat} (g : Nat → List Int) (h : Ev tl σ H (.ref a)) (hx : SqL K H a xs) (hz : xs.length ≤ 40000) (hw : ∀ x, wipe ((wipe σ vs).set j (some x)) vs = wipe σ vs)
    (he : ∀ (i : Nat) (x : V) H1, Ex H H1 → xs[i]? = some x → Er te ((wipe σ vs).set j (some x)) H1 (RL (g i))) :
    Er (tLc (iList K tl) (gName j) tYes te vs) σ H (RM ((List.range xs.length).map g)) := fun H0 e Q q => h H0 e _ fun H1 e1 => ⟨a, rfl, ⟨xs, ex_l (e.trans e1) hx⟩, fun Dl hD =>
  lc_list (xs := xs) (Cm H1 g Dl) ⟨Ex.new hD, .nil hD upd_same⟩ (fun i H' _ p => ex_l ((e.trans e1).trans p.1) hx) (fun i x H' hi p => ⟨hw x, cm_turn p (by have := (List.getElem?_eq_some_iff.mp hi).1; omega) (he i x H1 (e.trans e1) hi)⟩)
    (fun H' p => q _ H' (e1.trans p.1) ⟨Dl, rfl, p.2.back e1⟩)⟩
end
end AT

/-! ## the rules with the written part named -/
namespace AT
open PySem PySem.Spec PyProof.Rows L2 Evl
section
variable {X : Cx} {tg : Expr}
theorem lenK (K : Frag) (h : X.K = K := by rfl) : CallR X (.builtin "len") (rLenS K) := by subst h; exact call_len_seq
theorem listK (K : Frag) (h : X.K = K := by rfl) : CallR X (.type "list") (rListS K) := by subst h; exact call_list_of
def rTupS (K : Frag) : List V → Hp → VK → Prop := fun xs H Q => ∃ p ys, xs = [.ref p] ∧ ((SqL K H p ys ∧ ∀ l, H l = none → Q (.ref l) (upd H l (.tup ys))) ∨ (SqT K H p ys ∧ Q (.ref p) H))
theorem tupK (K : Frag) (h : X.K = K := by rfl) : CallR X (.type "tuple") (rTupS K) := by subst h; exact call_tuple_of
theorem absK : CallR X (.builtin "abs") rAbs := call_abs
theorem isiK (K : Frag) (h : X.K = K := by rfl) : CallR X (.builtin "isinstance") (rIsi K) := by subst h; exact call_isi
theorem ixL (K : Frag) (h : X.K = K := by rfl) : IxR X (rIxL K) := by subst h; exact ix_list
theorem ixT (K : Frag) (h : X.K = K := by rfl) : IxR X (rIxT K) := by subst h; exact ix_tup
theorem slL (K : Frag) (h : X.K = K := by rfl) : SlR X (rSlL K) := by subst h; exact sl_list
theorem inK (K : Frag) (h : X.K = K := by rfl) : OpR X (compareOp .In) (rIn K false) := by subst h; exact op_in_seq
theorem ninK (K : Frag) (h : X.K = K := by rfl) : OpR X (compareOp .NotIn) (rIn K true) := by subst h; exact op_notIn_seq
theorem eqDK (K : Frag) (hu : X.A.units + 64 < cLine) (h : X.K = K := by rfl) : OpR X (compareOp .Eq) (rEqD K) := by subst h; exact op_eqD hu
theorem neDK (K : Frag) (hu : X.A.units + 64 < cLine) (h : X.K = K := by rfl) : OpR X (compareOp .NotEq) (rNeD K) := by subst h; exact op_neD hu
theorem sumK (K : Frag) (hc : X.calm = true) (h : X.K = K := by rfl) : CallR X (.builtin "sum") (rSum K) := by subst h; exact cr_sum hc
theorem maxK (K : Frag) (hc : X.calm = true) (h : X.K = K := by rfl) : CallR X (.builtin "max") (rMax K) := by subst h; exact cr_max hc
theorem minK (K : Frag) (hc : X.calm = true) (h : X.K = K := by rfl) : CallR X (.builtin "min") (rMin K) := by subst h; exact cr_min hc
theorem allK (K : Frag) (hc : X.calm = true) (h : X.K = K := by rfl) : CallR X (.builtin "all") (rAll K) := by subst h; exact cr_all hc
theorem sortedK (K : Frag) (h : X.K = K := by rfl) : CallR X (.builtin "sorted") (rSorted K) := by subst h; exact cr_sorted
theorem pi_listK (K : Frag) {l : Expr} {tl : TE} (hl : PE X l tl) (h : X.K = K := by rfl) : PI X tg l (iList K tl) := by subst h; exact pi_list hl
theorem pi_tupK (K : Frag) {l : Expr} {tl : TE} (hl : PE X l tl) (h : X.K = K := by rfl) : PI X tg l (iTup K tl) := by subst h; exact pi_tup hl
theorem mt_indexK (K : Frag) (h : X.K = K := by rfl) : MtR X "list.index" (rIndex K) := by subst h; exact mt_index
theorem pi_zipK (K : Frag) {e e2 : Expr} {ta : TA} {p pos tpos : Pos} {elts : List Expr} {kk : Nat} (hg : Gl X "zip") (hm : X.mg "zip" = none) (ha : PA X [e, e2] ta) (h : X.K = K := by rfl)
    (hs : starEach [e, e2] X.env = (false, eval e X.env) :: starEach [e2] X.env := by rfl) (hpl : (backTo pos (starEach [e2] X.env)).any (·.1) = false := by rfl) :
    PI X (.Tuple elts kk tpos) (.Call (.Name "zip" p) [e, e2] [] pos) (iZip K ta) := by subst h; exact pi_zip hg hm ha hs hpl
theorem pg_tupK (K : Frag) {es : List Expr} {k : Nat} {t : TGs} {n : Nat} {pos : Pos} (hc : X.calm = true) (hp : PGs X es t) (h : X.K = K := by rfl)
    (hn : (assignEach es X.env).length = n := by rfl) (hst : (assignEach es X.env).findIdx? (·.1) = none := by rfl) : PG X (.Tuple es k pos) (gTup K n t) := by subst h; exact pg_tup hc hp hn hst
section
variable {o e : Expr} {es : List Expr} {to : TE} {t : TA} {name : Str} {apos cpos : Pos} {T id : String} {r : V → List V → Hp → VK → Prop}
theorem bm0K (K : Frag) (pa : PlainAttrs T) (slot : Slot T name id) (hty : typeOf (.builtin id) = pure (.type "method_descriptor")) (hm : MtR X id r) (ho : PE X o to) (h : X.K = K := by rfl)
    (hbase : attributeBase o name X.env (eval o X.env) = eval o X.env := by rfl) (hline : (apos.endLine == cpos.line) = true := by rfl) : PE X (.Call (.Attribute o name apos) [] [] cpos) (tBM0 K T r to) := by subst h; exact pe_bm0 pa slot hty hm ho hbase hline
theorem bmK (K : Frag) (pa : PlainAttrs T) (slot : Slot T name id) (hty : typeOf (.builtin id) = pure (.type "method_descriptor")) (hm : MtR X id r) (ho : PE X o to) (ha : PA X (e :: es) t) (h : X.K = K := by rfl)
    (hbase : attributeBase o name X.env (eval o X.env) = eval o X.env := by rfl)
    (hfew : ((backTo cpos (starEach (e :: es) X.env)).all (fun x => !x.1) && (backToKw cpos (keywordEach [] X.env)).all (fun x => x.1.isSome)
      && decide ((e :: es).length + ([] : List Keyword).length + (if ([] : List Keyword).isEmpty then 0 else 1) < 30)) = true := by rfl)
    (hline : (apos.endLine == cpos.line) = true := by rfl) (hs : starEach (e :: es) X.env = (false, eval e X.env) :: starEach es X.env := by rfl) (hplain : (backTo cpos (starEach es X.env)).any (·.1) = false := by rfl) :
    PE X (.Call (.Attribute o name apos) (e :: es) [] cpos) (tBM K T r to t) := by subst h; exact pe_bm pa slot hty hm ho ha hbase hfew hline hs hplain
end
end
end AT

/-! ## own exception classes, raised, caught, looked at in a def that the suite calls -/
namespace AT
open PySem PySem.Spec PyProof.Rows L2 Evl L2H
/-- what the top has left of an own exception class without text of its own -/
structure ExcF (K : Frag) (mg : Str → Option Value) (x : Str) (C : Addr) : Prop where
  g : mg x = some (.ref C)
  xn : PySem.W.excIn K C [.type "ValueError", .type "Exception", .type "BaseException", .type "object"] "ValueError.__new__" = true
  kp : PySem.W.keepIn K (.ref C) = true
  bs : PySem.W.subIn K (.ref C) (.type "BaseException") = some true
  ty : PySem.W.typeIn K (.ref C) = some (.type "type")
  ic : PySem.W.isClsIn K C = true
  hg : PySem.W.findIn K (.ref C) "__getattribute__" = some (some (.builtin "BaseException.__getattribute__"))
  hk : PySem.W.findIn K (.ref C) "__getattr__" = some none
  hd : PySem.W.hasDictIn K C = true
  ha : PySem.W.findIn K (.ref C) "__class__" = some (some (.builtin "object.__class__"))
  hn : PySem.W.specialIn K (.builtin "object.__class__") "__get__" = some (some (.builtin "getset_descriptor.__get__"))
  ht : PySem.W.takesIn K (.builtin "object.__class__") = some true
  hm : PySem.W.mroIn K C (.type "object") = some true
  vs : PySem.W.subIn K (.ref C) (.type "ValueError") = some true
section
variable {K : Frag} {mg : Str → Option Value} {x : Str} {C D : Addr}
theorem ExcF.excC (F : ExcF K mg x C) : ExcC K C := ⟨F.hg, F.hk, F.bs, F.hd, F.ha, F.hn, F.ht, F.hm⟩
theorem ExcF.cls (F : ExcF K mg x C) : ((PySem.W.clsIn K C).isSome && PySem.W.typeIn K (.ref C) == some (.type "type")) = true := by
  have h2 : (PySem.W.clsIn K C).isSome = true := F.ic
  rw [h2, F.ty] <;> rfl
theorem ExcF.exm (F : ExcF K mg x C) {cls : Value} {b : Bool} (h : PySem.W.subIn K cls (.ref C) = some b) : PySem.W.exmOne K cls (.ref C) = some b := by
  have e1 : (PySem.W.subIn K (.ref C) (.type "BaseException") == some true) = true := by rw [F.bs] <;> rfl
  show (if (PySem.W.subIn K (.ref C) (.type "BaseException") == some true) = true then (if ((PySem.W.clsIn K C).isSome && PySem.W.typeIn K (.ref C) == some (.type "type")) = true then PySem.W.subIn K cls (.ref C) else none) else none) = some b
  rw [if_pos e1, if_pos F.cls]
  exact h
theorem ExcF.kit (F : ExcF K mg x C) {b : Bool} (h : PySem.W.subIn K (.ref D) (.ref C) = some b) (hd : D = C → b = true) : PySem.W.kitOne K (.ref D) (.ref C) = some b := by
  unfold PySem.W.kitOne
  by_cases e : D = C
  · subst e
    rw [if_pos (by simp), hd rfl]
  · rw [if_neg (by simp [e])]
    show (if ((PySem.W.clsIn K C).isSome && PySem.W.typeIn K (.ref C) == some (.type "type")) = true then PySem.W.subIn K (.ref D) (.ref C) else none) = some b
    rw [if_pos F.cls]
    exact h
theorem ExcF.kitV (F : ExcF K mg x C) : PySem.W.kitOne K (.ref C) (.type "ValueError") = some true := by
  unfold PySem.W.kitOne
  rw [if_neg (by simp)]
  show (if PySem.W.kitMeta "ValueError" = true then PySem.W.subIn K (.ref C) (.type "ValueError") else none) = some true
  rw [if_pos (by decide +kernel)]
  exact F.vs
end

/-! ### a def that is called with the exception at hand -/
structure FnE (P : Program) (w : World) (K : Frag) (mg : Str → Option Value) (base : Heap) (k : Nat) (f : Addr) (fd : FuncData) (ps : List Str) (sp : Addr → Value → Option Addr → Sp) : Prop where
  len : ∀ a c d vs H Q E, sp a c d vs H Q E → vs.length = ps.length
  run : ∀ (A : Around) (outer : List Env) (s : Shared) (H : Hp) (args : Args) (us : List Value) (vs : List V) (Q : VK) (E : XK) (p : Addr × Obj) (c : Value) (d : Option Addr), Zc c d p.2 → (∃ fv, p.2.data = .fields fv) → RoomH k A → PinOk outer H s p → Env0 P w K mg base A outer s H → BindsTo s fd args (ps.zip us) → Vals vs us → sp p.1 c d vs H Q E →
    codeAny (model P w) A (.call (.ref f) args) (CR CX0 outer P w H s Q E) s
theorem fn_ofE {P : Program} {w : World} {K : Frag} {mg : Str → Option Value} {base : Heap} {k : Nat} {f : Addr} {name qual : Str} {params : Arguments} {body : List Stmt} {scope : Scope} {dV kV doc pm cdv ct oc : Value} {an od : Option Addr}
    {osl : Array (Option Value)} {N ps : List Str} {sp : Addr → Value → Option Addr → Sp} (lk : K.lookup f = some ⟨oc, od, .func (PySem.W.fnOf name qual params body scope dV kV doc pm an cdv ct), osl⟩) (hcd : PySem.W.codeIn K cdv qual = true) (S : FnScope N ps scope)
    (len : ∀ a c d vs H Q E, sp a c d vs H Q E → vs.length = ps.length)
    (hbody : ∀ (A : Around) (outer : List Env) (s : Shared) (H : Hp) (vs : List V) (Q : VK) (E : XK) (p : Addr × Obj) (c : Value) (d : Option Addr), Zc c d p.2 → (∃ fv, p.2.data = .fields fv) → RoomH k (A.deeper (envOfC qual scope s.heap.objs.size f cdv)) → sp p.1 c d vs H Q E →
      ∃ t, PSs (cxH CX0 P w K mg base N qual scope f cdv A outer s H E p) body t ∧ t { nx := fun _ H' => Q .non H', rt := Q } (L2.start N vs) H) :
    FnE P w K mg base (k + 1) f (PySem.W.fnOf name qual params body scope dV kV doc pm an cdv ct) ps sp := by
  refine ⟨len, fun A outer s H args us vs Q E p c d hz hf hr hpin e0 hb r hsp => ?_⟩
  have hl := len _ _ _ _ _ _ _ hsp
  have KX : K.In s.heap := e0.mod.kin.keeps fun b o e => (e0.bs b o e).1
  have lim : s.heap.NoLimit := e0.mod.nolimit.keeps fun b o e => (e0.bs b o e).1
  have hkind : ∀ y ∈ ps.zip us, scope.names.lookup y.1 = some .local ∨ (scope.names.lookup y.1 = some .cell ∧ ((cellsFrom (s.heap.objs.size + 1) scope.names []).lookup y.1).isSome = true) := fun ⟨n, v⟩ hy => by
    rcases S.par n (List.of_mem_zip hy).1 with q | q
    · exact .inl q
    · exact .inr ⟨q, PySem.W.cellsFrom_some _ _ _ (.inl q)⟩
  refine codeAny_call_function hr.depth (KX _ _ lk) rfl S.co S.gen rfl (PySem.W.codeRec_of KX hcd) (hb _ _ _ _ ?_)
  refine wpAny_newFunctionEnv_cells S.kind hkind fun env he s1 x => ?_
  subst he
  refine ⟨lim.keeps x.toInCall.keep, codeAny_func ?_⟩
  obtain ⟨t, ht, hq⟩ := hbody A outer s H vs Q E p c d hz hf (hr.deeper _) hsp
  have I : Inv (cxH CX0 P w K mg base N qual scope f cdv A outer s H E p) [] (L2.start N vs) H s1 := inv_startH S hpin e0 hl r x
  refine wpAny_mono (ht.run [] s1 (L2.start N vs) H _ I hq) (fun fl s' hs => ?_) fun e s' hs => hs
  have fin : ∀ {σ' : L2.St} {H' : Hp} {v : V} {u : Value}, Inv (cxH CX0 P w K mg base N qual scope f cdv A outer s H E p) [] σ' H' s' → RelV v u → Q v H' → CE outer P w H s Q u s' :=
    fun {σ' H' v u} J rv q => ⟨v, H', J.os, J.bare, J.base, J.hok, rv, q⟩
  cases fl with
  | ret u =>
    obtain ⟨v, σ', H', J, rv, q⟩ := hs
    exact fin J rv q
  | next =>
    obtain ⟨σ', H', J, q⟩ := hs
    exact fin (v := V.non) (u := Value.none) J rfl q
  | brk =>
    obtain ⟨_, _, _, q⟩ := hs
    exact False.elim q
  | cont =>
    obtain ⟨_, _, _, q⟩ := hs
    exact False.elim q
theorem Fun.okE {P : Program} {w : World} {K : Frag} {mg : Str → Option Value} {base : Heap} {x qual : Str} {st : Stmt} {f : Addr} {fd : FuncData} {N ps : List Str} {k : Nat} {sp : Addr → Value → Option Addr → Sp} (F : Fun K x qual st f fd) (S : FnScope N ps (defScope st)) (len : ∀ a c d vs H Q E, sp a c d vs H Q E → vs.length = ps.length)
    (hbody : ∀ (cdv : Value) (A : Around) (outer : List Env) (s : Shared) (H : Hp) (vs : List V) (Q : VK) (E : XK) (p : Addr × Obj) (c : Value) (d : Option Addr), Zc c d p.2 → (∃ fv, p.2.data = .fields fv) → RoomH k (A.deeper (envOfC qual (defScope st) s.heap.objs.size f cdv)) → sp p.1 c d vs H Q E →
      ∃ t, PSs (cxH CX0 P w K mg base N qual (defScope st) f cdv A outer s H E p).nox (defBody st) t ∧ t { nx := fun _ H' => Q .non H', rt := Q } (L2.start N vs) H) : FnE P w K mg base (k + 1) f fd ps sp := by
  obtain ⟨oc, od, kV, doc, pm, an, cdv, ct, osl, rfl, lk, hcd⟩ := F.ex
  refine fn_ofE lk hcd S len fun A outer s H vs Q E p c d hz hf hr hsp => ?_
  obtain ⟨t, h, q⟩ := hbody cdv A outer s H vs Q E p c d hz hf hr hsp
  exact ⟨t, h.nox, q⟩
section
variable {X : Cx} {k : Nat} {f : Addr} {fd : FuncData} {ps : List Str} {sp : Addr → Value → Option Addr → Sp} {x : Str} {q pos : Pos} {e : Expr} {es : List Expr} {t : TA}
/-- f(e), e the exception that the suite holds -/
def tCallE (sp : Sp) (t : TA) : TE := fun σ H Q => t σ H fun vs H1 => sp vs H1 Q E0
theorem pe_callE {a : Addr} {oe : Obj} {c : Value} {d : Option Addr} (hz : Zc c d oe) (hf : ∃ fv, oe.data = .fields fv) (F : FnE X.prog X.w X.K X.mg X.base k f fd ps sp) (hr : RoomH k X.A) (hp : (a, oe) ∈ X.pn) (hg : Gl X x) (hm : X.mg x = some (.ref f)) (hk : PySem.W.keepIn X.K (.ref f) = true) (hb : Binds X.K fd ps [])
    (ha : PA X (e :: es) t) (hdb : (x == ("__debug__" : Str)) = false := by decide) (he : starEach (e :: es) X.env = (false, eval e X.env) :: starEach es X.env := by rfl) (hpl : (backTo pos (starEach es X.env)).any (·.1) = false := by rfl) :
    PE X (.Call (.Name x q) (e :: es) [] pos) (tCallE (sp a c d) t) := by
  refine ⟨fun pins s σ H Q I h => ?_⟩
  refine wpAny_Call_Name_kw (ld_glob I hg hm ?_ hdb)
  refine PySem.W.callWith_K (h₀ := X.base) I.ok.mod.kin hk (thn (ha.run pos pins s σ H _ I h) fun us s1 ⟨vs, H1, I1, r, q⟩ => ⟨I1.kIn, ?_⟩) he hpl
  have hl : us.length = ps.length := by rw [← r.length]; exact F.len _ _ _ _ _ _ _ q
  have b := hb s1 us I1.kIn (by rw [List.append_nil]; exact hl)
  rw [List.append_nil] at b
  have P1 := I1.pin (a, oe) (List.mem_append_left _ hp)
  have hpin : PinOk X.stack H1 s1 (a, oe) := ⟨P1.1, P1.2.1, fun hm => (List.mem_cons.mp (I1.stkSub a hm)).elim P1.2.2.1 P1.2.2.2.1, P1.2.2.2.2⟩
  refine wpAny_call (codeAny_mono (F.run X.A X.stack s1 H1 ⟨us, []⟩ us vs Q E0 (a, oe) c d hz hf hr hpin I1.env0 b r q) fun r s' hq => ?_)
  cases r with
  | error e => exact False.elim hq
  | ok fl =>
    cases fl with
    | ret u => exact I1.after hq
    | next => exact False.elim hq
    | brk => exact False.elim hq
    | cont => exact False.elim hq
/-- isinstance(e, C) there -/
theorem call_isP {a D : Addr} {oe : Obj} (K : Frag) (hp : (a, oe) ∈ X.pn) (C : ExcC K D) (hz : Zc (.ref D) none oe) (hf : ∃ vs, oe.data = .fields vs) (hK : X.K = K := by rfl) : CallR X (.builtin "isinstance") (rIsE K D a) := by
  subst hK
  intro pins s σ H xs us Q I r h
  obtain ⟨c, cv, b, rfl, hcv, e, q⟩ := h
  cases r with
  | cons rx rr =>
    cases rr with
    | cons rt rr =>
      cases rr
      cases rx
      have ec := hcv _ rt
      subst ec
      obtain ⟨hget, _⟩ := I.pin (a, oe) (List.mem_append.mpr (.inl hp))
      obtain ⟨vs, hv⟩ := hf
      have J : PySem.W.InstAt s.heap a oe D none := by
        obtain ⟨oc, od, oda, osl⟩ := oe
        obtain ⟨h1, h2⟩ := hz
        dsimp only at h1 h2 hv
        subst h1 h2 hv
        exact ⟨hget, rfl, rfl, trivial⟩
      exact PySem.W.kia_one (PySem.W.handS_kitx_exc C.hg C.hk C.hs C.hd C.ha C.hn C.ht C.hm) I.kIn J e (fun z => nomatch z) fun tk => ⟨.bl b, H, I.kept (t' := tk) fun _ _ z => z, rfl, q⟩
end

/-! ### list.count(True) of a list of truth values -/
def eqb (b : Bool) (v : Value) : Bool := v == .bool b
def rCntB (K : Frag) : V → List V → Hp → VK → Prop := fun x xs H Q => ∃ (p : Addr) (ns : List Bool) (k : Bool), x = .ref p ∧ xs = [.bl k] ∧ SqL K H p (ns.map V.bl) ∧ Q (.int (ns.count k : Nat)) H
theorem bools_of : ∀ {ns : List Bool} {us : List Value}, Vals (ns.map V.bl) us → us = ns.map Value.bool
  | [], _, .nil => rfl
  | n :: ns, _, .cons r t => by
    cases (show _ = Value.bool n from r)
    rw [bools_of t]; rfl
theorem bools_count (k : Bool) : ∀ ns : List Bool, (ns.map Value.bool).countP (eqb k) = ns.count k
  | [] => rfl
  | n :: ns => by
    rw [List.map_cons, List.countP_cons, List.count_cons, bools_count k ns]
    congr 1
    cases n <;> cases k <;> rfl
theorem mt_countB {X : Cx} (K : Frag) (hK : X.K = K := by rfl) : MtR X "list.count" (rCntB K) := by
  subst hK
  intro pins s σ H x xs v us Q I rx rxs h
  obtain ⟨p, ns, k, rfl, rfl, hs, q⟩ := h
  cases rx
  obtain ⟨u, rfl, ru⟩ := rxs.one
  cases (show u = Value.bool k from ru)
  obtain ⟨its, rv, ⟨⟨cls, dd, data, sl⟩, n, ho, hc, hdn, hd⟩, hlen⟩ := I.list hs
  simp only at hc hd
  subst hc hd
  have hi := bools_of rv
  subst hi
  refine call_meets PySem.F.slot_list_count ⟨_, ho, rfl⟩ PySem.F.entry_list_count (PySem.F.args_list_count_2 _ _)
    (SeqAt.list_countAt p (ns.map Value.bool).toArray n dd sl (.bool k) (eqb k)) ⟨ho, fun y hy => ?_, ?_⟩
  · obtain ⟨b, _, rfl⟩ := List.mem_map.mp (show y ∈ ns.map Value.bool by simpa using hy)
    have e := eqAt_V (A := X.A.in1) (s := s) (y := .bl b) (x := .bl k) (u := .bool b) (v := .bool k) rfl rfl rfl rfl
    have e2 : eqV (.bl b) (.bl k) = eqb k (.bool b) := by cases b <;> cases k <;> rfl
    rw [e2] at e
    exact e
  · have ec : (ns.map Value.bool).toArray.toList.countP (eqb k) = ns.count k := by
      rw [List.toList_toArray]
      exact bools_count k ns
    refine ⟨.int (ns.count k : Nat), H, I.tok _, ⟨s.toks, ?_⟩, q⟩
    show Value.int (((ns.map Value.bool).toArray.toList.countP (eqb k) : Nat) : Int) s.toks = Value.int ((ns.count k : Nat) : Int) s.toks
    rw [ec]
end AT

/-! ## more of the layer: stores into rows, menus, zip, ==, isinstance -/
namespace AT
open PySem PySem.Spec PyProof.Rows L2 Evl
abbrev E00 : Hp := fun _ => none
theorem ex_E00 {H : Hp} : Ex E00 H := fun _ _ h => by cases h
/-- a tracked list of lists, all apart -/
abbrev TLL (H : Hp) (a : Addr) (M : List (List Int)) : Prop := OLLI E00 H a M
theorem OLLI.tll {H0 H : Hp} {a : Addr} {M : List (List Int)} (h : OLLI H0 H a M) : TLL H a M := h.back ex_E00
section
variable {K : Frag} {σ : St} {H H0 H1 H' : Hp} {ta tb tc te ti tj tv : TE} {t : TT} {a b p r : Addr} {M : List (List Int)} {xs : List Int} {x y z v : V} {R : R3} {D : Ends} {tu tz : TS}

/-- M[i][j] = v -/
def setM (M : List (List Int)) (i j : Nat) (v : Int) : List (List Int) := M.set i ((M.getD i []).set j v)
theorem OLLI.store {i j : Nat} {row : List Int} {w : Int} (h : OLLI H0 H p M) (e : M[i]? = some row) : ∃ (as : List Addr) (x : Addr), H p = some (.lst (as.map V.ref)) ∧ as[i]? = some x ∧ H0 x = none ∧ H x = some (.lst (row.map V.int)) ∧
    ∀ H1, Ex H H1 → OLLI H0 (upd H1 x (.lst ((row.map V.int).set j (.int w)))) p (M.set i (row.set j w)) := by
  obtain ⟨as, h0, h1, hn, h2⟩ := h
  obtain ⟨x, ex, qx⟩ := paired_get h2 e
  refine ⟨as, x, h1, ex, qx.1, qx.2, fun H1 eH => ?_⟩
  rw [List.nodup_cons] at hn
  have hxm : x ∈ as := List.mem_of_getElem? ex
  have hpx : p ≠ x := fun z => hn.1 (z ▸ hxm)
  refine ⟨as, h0, by rw [upd_ne hpx]; exact eH _ _ h1, List.nodup_cons.mpr hn, ?_⟩
  refine paired_of (by rw [List.length_set, h2.length]) fun k y r hy hr => ?_
  by_cases hk : k = i
  · subst hk
    rw [ex] at hy; cases hy
    have hlt : k < M.length := (List.getElem?_eq_some_iff.mp e).1
    rw [List.getElem?_set_self hlt] at hr
    cases hr
    exact ⟨qx.1, by rw [upd_same, List.map_set]⟩
  · rw [List.getElem?_set_ne (Ne.symm hk)] at hr
    obtain ⟨z, hz, qz⟩ := paired_get h2 hr
    rw [hy] at hz; cases hz
    have hne : y ≠ x := fun e2 => hk (by
      subst e2
      obtain ⟨a1, b1⟩ := List.getElem?_eq_some_iff.mp hy
      obtain ⟨a2, b2⟩ := List.getElem?_eq_some_iff.mp ex
      exact (List.getElem_inj hn.2).mp (b1.trans b2.symm))
    exact ⟨qz.1, by rw [upd_ne hne]; exact eH _ _ qz.2⟩
theorem s_setM {i j : Nat} {row : List Int} {w : Int} (h : OLLI H0 H p M) (e0 : Ex H0 H) (e : M[i]? = some row) (hj : j < row.length) (he : Ev te σ H (.int w)) (ho : Ev tv σ H (.ref p)) (hi : Ev ti σ H (.int (i : Int))) (hj' : Ev tj σ H (.int (j : Int)))
    (k : ∀ H1, Ex H0 H1 → OLLI H0 H1 p (M.set i (row.set j w)) → D.nx σ H1) : tAsg te (gSub (tOp (rIxL K) tv ti) tj rSetL) D σ H := by
  obtain ⟨as, x, h1, h2, h3, h4, h5⟩ := h.store (j := j) (w := w) e
  refine s_setL (l := x) (xs := row.map V.int) (j := j) h4 he (ev_op ho hi (rv_ixL (sq_of h1) (atI_n (by rw [List.getElem?_map, h2]; rfl)))) hj' (by rw [List.length_map]; exact hj) fun H1 e1 => ?_
  exact k _ (Ex.mut (e0.trans e1) h3) (h5 H1 e1)
theorem q_setM {i j : Nat} {row : List Int} {w : Int} (h : OLLI H0 H p M) (e0 : Ex H0 H) (e : M[i]? = some row) (hj : j < row.length) (he : Ev te σ H (.int w)) (ho : Ev tv σ H (.ref p)) (hi : Ev ti σ H (.int (i : Int))) (hj' : Ev tj σ H (.int (j : Int)))
    (k : ∀ H1, Ex H0 H1 → OLLI H0 H1 p (M.set i (row.set j w)) → tz D σ H1) : tSeq (tAsg te (gSub (tOp (rIxL K) tv ti) tj rSetL)) tz D σ H :=
  s_setM (D := { D with nx := tz D }) h e0 e hj he ho hi hj' k
/-- f but v at i, j -/
def setF (f : Nat → Nat → Int) (i j : Nat) (v : Int) : Nat → Nat → Int := fun a b => if a = i ∧ b = j then v else f a b
theorem setF_fm {n i j : Nat} {f : Nat → Nat → Int} {v : Int} (hi : i < n) (hj : j < n) : (Fm n f).set i (((List.range n).map (f i)).set j v) = Fm n (setF f i j v) := by
  apply List.ext_getElem?
  intro a
  by_cases ha : a = i
  · subst ha
    rw [List.getElem?_set_self (by rw [fm_len]; exact hi), fm_get hi]
    congr 1
    apply List.ext_getElem?
    intro b
    by_cases hb : b = j
    · subst hb
      rw [List.getElem?_set_self (by simpa using hj), mapr_get hj]
      unfold setF
      rw [if_pos ⟨rfl, rfl⟩]
    · rw [List.getElem?_set_ne (Ne.symm hb)]
      by_cases hbn : b < n
      · rw [mapr_get hbn, mapr_get hbn]
        unfold setF
        rw [if_neg (fun z => hb z.2)]
      · rw [List.getElem?_eq_none (by simpa using hbn), List.getElem?_eq_none (by simpa using hbn)]
  · rw [List.getElem?_set_ne (Ne.symm ha)]
    by_cases han : a < n
    · rw [fm_get han, fm_get han]
      congr 1
      exact mapr_ext fun b _ => by
        unfold setF
        rw [if_neg (fun z => ha z.1)]
    · rw [List.getElem?_eq_none (by rw [fm_len]; omega), List.getElem?_eq_none (by rw [fm_len]; omega)]
theorem q_setFm {n i j : Nat} {f : Nat → Nat → Int} {w : Int} (h : OLLI H0 H p (Fm n f)) (e0 : Ex H0 H) (hin : i < n) (hjn : j < n) (he : Ev te σ H (.int w)) (ho : Ev tv σ H (.ref p)) (hi : Ev ti σ H (.int (i : Int))) (hj' : Ev tj σ H (.int (j : Int)))
    (k : ∀ H1, Ex H0 H1 → OLLI H0 H1 p (Fm n (setF f i j w)) → tz D σ H1) : tSeq (tAsg te (gSub (tOp (rIxL K) tv ti) tj rSetL)) tz D σ H :=
  q_setM h e0 (fm_get hin) (by simpa using hjn) he ho hi hj' fun H1 e1 h1 => k H1 e1 (by rw [setF_fm hin hjn] at h1; exact h1)
theorem s_setFm {n i j : Nat} {f : Nat → Nat → Int} {w : Int} (h : OLLI H0 H p (Fm n f)) (e0 : Ex H0 H) (hin : i < n) (hjn : j < n) (he : Ev te σ H (.int w)) (ho : Ev tv σ H (.ref p)) (hi : Ev ti σ H (.int (i : Int))) (hj' : Ev tj σ H (.int (j : Int)))
    (k : ∀ H1, Ex H0 H1 → OLLI H0 H1 p (Fm n (setF f i j w)) → D.nx σ H1) : tAsg te (gSub (tOp (rIxL K) tv ti) tj rSetL) D σ H :=
  s_setM h e0 (fm_get hin) (by simpa using hjn) he ho hi hj' fun H1 e1 h1 => k H1 e1 (by rw [setF_fm hin hjn] at h1; exact h1)

/-- [a, b, ..][i] -/
theorem ev_menu {ta : TA} {i : Nat} {vs : List V} {v : V} (h : EvA ta σ H vs) (hl : vs.length ≤ 100000) (hi : ∀ H1, Ex H H1 → Ev ti σ H1 (.int (i : Int))) (hv : vs[i]? = some v) : Ev (tOp (rIxL K) (tLst ta) ti) σ H v :=
  ev_opL1 (el_lst h hl) hi fun p H1 hp e1 => rv_ixL (sq_of hp) (atI_n hv)

/-- for x, y in zip(xs, ys) -/
theorem s_forZ {ta : TA} {i1 i2 : Nat} {xs ys : List V} (h : EvA ta σ H [.ref a, .ref b]) (ha : SqL K H a xs) (hb : SqL K H b ys) (hl : xs.length = ys.length) (Pv : Nat → St → Hp → Prop) (h0 : ∀ H1, Ex H H1 → Pv 0 σ H1)
    (hq : ∀ i σ' H', Pv i σ' H' → SqL K H' a xs ∧ SqL K H' b ys)
    (hs : ∀ (i : Nat) x y T σ' H', xs[i]? = some x → ys[i]? = some y → Pv i σ' H' → H' T = none → tu { D with nx := Pv (i + 1), ct := Pv (i + 1), bk := D.nx } ((σ'.set i1 (some x)).set i2 (some y)) (upd H' T (.tup [x, y])))
    (hd : ∀ σ' H', Pv xs.length σ' H' → D.nx σ' H') : tFor (iZip K ta) (gTup K 2 (gCons (gName i1) (gCons (gName i2) gNil))) tu D σ H :=
  h H (Ex.refl H) _ fun H1 e => ⟨a, b, xs, ys, rfl, ex_l e ha, ex_l e hb, RZ.for_zipL hl Pv (h0 H1 e) hq (fun i x y T σ' H' hx hy p hT => ⟨T, [x, y], rfl, st_of upd_same, rfl, x, [y], rfl, y, [], rfl, rfl, hs i x y T σ' H' hx hy p hT⟩) hd⟩
theorem q_forZ {ta : TA} {i1 i2 : Nat} {xs ys : List V} (h : EvA ta σ H [.ref a, .ref b]) (ha : SqL K H a xs) (hb : SqL K H b ys) (hl : xs.length = ys.length) (Pv : Nat → St → Hp → Prop) (h0 : ∀ H1, Ex H H1 → Pv 0 σ H1)
    (hq : ∀ i σ' H', Pv i σ' H' → SqL K H' a xs ∧ SqL K H' b ys)
    (hs : ∀ (i : Nat) x y T σ' H', xs[i]? = some x → ys[i]? = some y → Pv i σ' H' → H' T = none → tu { D with nx := Pv (i + 1), ct := Pv (i + 1), bk := tz D } ((σ'.set i1 (some x)).set i2 (some y)) (upd H' T (.tup [x, y])))
    (hd : ∀ σ' H', Pv xs.length σ' H' → tz D σ' H') : tSeq (tFor (iZip K ta) (gTup K 2 (gCons (gName i1) (gCons (gName i2) gNil))) tu) tz D σ H :=
  s_forZ (D := { D with nx := tz D }) h ha hb hl Pv h0 hq hs hd

/-! ### isinstance -/
theorem ev_isi {u w : Value} {n m : String} {k : Bool} (ha : Ev ta σ H x) (hx : ∀ H1, Ex H H1 → TyX K H1 x (.type n)) (hk : PySem.W.kitOne K (.type n) (.type m) = some k) : Ev (tCB (rIsi K) (tCons ta (tCons (tC (.ty m)) tNil))) σ H (.bl k) := fun H1 e Q q =>
  ha H1 e _ fun H2 e2 => ⟨x, .ty m, .type n, .type m, k, rfl, .ty m, hx H2 (e.trans e2), hk, q H2 e2⟩
theorem ev_isInt {i : Int} (ha : Ev ta σ H (.int i)) : Ev (tCB (rIsi K) (tCons ta (tCons (tC (.ty "int")) tNil))) σ H (.bl true) := ev_isi (u := .none) (w := .none) (n := "int") ha (fun _ _ => .base (.int i)) (kit_ty (by decide +kernel))
theorem ev_isIntBool {i : Int} (ha : Ev ta σ H (.int i)) : Ev (tCB (rIsi K) (tCons ta (tCons (tC (.ty "bool")) tNil))) σ H (.bl false) := ev_isi (u := .none) (w := .none) (n := "int") ha (fun _ _ => .base (.int i)) (kit_ty (by decide +kernel))
theorem ev_isList {vs : List V} (ha : Ev ta σ H (.ref p)) (h : H p = some (.lst vs)) : Ev (tCB (rIsi K) (tCons ta (tCons (tC (.ty "list")) tNil))) σ H (.bl true) := ev_isi (u := .none) (w := .none) (n := "list") ha (fun H1 e => .base (.lst (e _ _ h))) (kit_ty (by decide +kernel))
theorem ev_isBool {k : Bool} (ha : Ev ta σ H (.bl k)) : Ev (tCB (rIsi K) (tCons ta (tCons (tC (.ty "bool")) tNil))) σ H (.bl true) := ev_isi (u := .none) (w := .none) (n := "bool") ha (fun _ _ => .base (.bl k)) (kit_ty (by decide +kernel))

/-! ### == of lists of ints, of lists of them -/
def dI (xs : List Int) : List PyData := xs.map PyData.int
def dM (M : List (List Int)) : List PyData := M.map fun r => .list (dI r)
theorem dpAll_ints : ∀ xs : List Int, DpAll K H (xs.map V.int) (dI xs)
  | [] => .nil
  | x :: r => .cons (.int x) (dpAll_ints r)
theorem LI.dp (h : LI K H a xs) : Dp K H (.ref a) (.list (dI xs)) := .lst h (dpAll_ints xs)
theorem dpAll_rows : ∀ {as : List Addr} {M : List (List Int)}, Paired (fun x r => LI K H x r) as M → DpAll K H (as.map V.ref) (dM M)
  | _, _, .nil => .nil
  | _, _, .cons r t => .cons r.dp (dpAll_rows t)
theorem LLI.dp (h : LLI K H a M) : Dp K H (.ref a) (.list (dM M)) := by
  obtain ⟨as, h1, h2⟩ := h
  exact .lst h1 (dpAll_rows h2)
theorem canLay_ints : ∀ xs : List Int, PyData.canLayAll0 (dI xs) = true
  | [] => rfl
  | x :: r => by
    have := canLay_ints r
    simpa [dI, PyData.canLayAll0, PyData.canLay0] using this
theorem canLay_rows : ∀ M : List (List Int), PyData.canLayAll0 (dM M) = true
  | [] => rfl
  | x :: r => by
    have h1 := canLay_rows r
    have h2 := canLay_ints x
    simp only [dM, List.map_cons, PyData.canLayAll0, PyData.canLay0, Bool.and_eq_true]
    exact ⟨h2, h1⟩
theorem depth_ints : ∀ xs : List Int, PyData.depthAll (dI xs) ≤ 1
  | [] => by simp [dI, PyData.depthAll]
  | x :: r => by
    have := depth_ints r
    simp only [dI, List.map_cons, PyData.depthAll, PyData.depth] at *
    omega
theorem depth_rows : ∀ M : List (List Int), PyData.depthAll (dM M) ≤ 2
  | [] => by simp [dM, PyData.depthAll]
  | x :: r => by
    have h1 := depth_rows r
    have h2 := depth_ints x
    simp only [dM, List.map_cons, PyData.depthAll, PyData.depth] at *
    omega
theorem shaped_I (xs : List Int) : SeqAt.shaped (.list (dI xs)) = true := by
  unfold SeqAt.shaped
  rw [Bool.and_eq_true]
  refine ⟨by simpa [PyData.canLay0] using canLay_ints xs, decide_eq_true ?_⟩
  have := depth_ints xs
  simp only [PyData.depth]
  omega
theorem shaped_M (M : List (List Int)) : SeqAt.shaped (.list (dM M)) = true := by
  unfold SeqAt.shaped
  rw [Bool.and_eq_true]
  refine ⟨by simpa [PyData.canLay0] using canLay_rows M, decide_eq_true ?_⟩
  have := depth_rows M
  simp only [PyData.depth]
  omega
theorem eqv_I : ∀ xs ys : List Int, PyData.eqvAll (dI xs) (dI ys) = decide (xs = ys)
  | [], [] => rfl
  | [], _ :: _ => rfl
  | _ :: _, [] => rfl
  | x :: xs, y :: ys => by
    have ih := eqv_I xs ys
    show (PyData.eqv (.int x) (.int y) && PyData.eqvAll (dI xs) (dI ys)) = _
    rw [ih]
    show ((x == y) && decide (xs = ys)) = _
    by_cases e : x = y
    · subst e; simp
    · simp [e]
theorem eqv_M : ∀ xs ys : List (List Int), PyData.eqvAll (dM xs) (dM ys) = decide (xs = ys)
  | [], [] => rfl
  | [], _ :: _ => rfl
  | _ :: _, [] => rfl
  | x :: xs, y :: ys => by
    have ih := eqv_M xs ys
    show (PyData.eqv (.list (dI x)) (.list (dI y)) && PyData.eqvAll (dM xs) (dM ys)) = _
    rw [ih]
    show (PyData.eqvAll (dI x) (dI y) && decide (xs = ys)) = _
    rw [eqv_I]
    by_cases e : x = y
    · subst e; simp
    · simp [e]
theorem rv_eqM {N : List (List Int)} (ha : LLI K H a M) (hb : LLI K H b N) : RV (rEqD K) (.ref a) (.ref b) H (.bl (decide (M = N))) := fun H1 e Q q =>
  ⟨_, _, (ha.mono e).dp, (hb.mono e).dp, shaped_M M, shaped_M N, by
    show Q (.bl (PyData.eqvAll (dM M) (dM N))) H1
    rw [eqv_M]
    exact q H1 (Ex.refl _)⟩
theorem rv_neM {N : List (List Int)} (ha : LLI K H a M) (hb : LLI K H b N) : RV (rNeD K) (.ref a) (.ref b) H (.bl (!decide (M = N))) := fun H1 e Q q =>
  ⟨_, _, (ha.mono e).dp, (hb.mono e).dp, shaped_M M, shaped_M N, by
    show Q (.bl (!PyData.eqvAll (dM M) (dM N))) H1
    rw [eqv_M]
    exact q H1 (Ex.refl _)⟩
theorem rv_eqI {ys : List Int} (ha : LI K H a xs) (hb : LI K H b ys) : RV (rEqD K) (.ref a) (.ref b) H (.bl (decide (xs = ys))) := fun H1 e Q q =>
  ⟨_, _, (ha.mono e).dp, (hb.mono e).dp, shaped_I xs, shaped_I ys, by
    show Q (.bl (PyData.eqvAll (dI xs) (dI ys))) H1
    rw [eqv_I]
    exact q H1 (Ex.refl _)⟩
theorem rv_neI {ys : List Int} (ha : LI K H a xs) (hb : LI K H b ys) : RV (rNeD K) (.ref a) (.ref b) H (.bl (!decide (xs = ys))) := fun H1 e Q q =>
  ⟨_, _, (ha.mono e).dp, (hb.mono e).dp, shaped_I xs, shaped_I ys, by
    show Q (.bl (!PyData.eqvAll (dI xs) (dI ys))) H1
    rw [eqv_I]
    exact q H1 (Ex.refl _)⟩
/-- x, y = e1, e2 -/
theorem s_par {i j : Nat} {ta : TA} {v1 v2 : V} (h : EvA ta σ H [v1, v2]) (k : ∀ H1, Ex H H1 → D.nx ((σ.set i (some v1)).set j (some v2)) H1) : tPar i j ta D σ H := h H (Ex.refl H) _ fun H1 e => ⟨v1, v2, rfl, k H1 e⟩
theorem q_par {i j : Nat} {ta : TA} {v1 v2 : V} (h : EvA ta σ H [v1, v2]) (k : ∀ H1, Ex H H1 → tz D ((σ.set i (some v1)).set j (some v2)) H1) : tSeq (tPar i j ta) tz D σ H := s_par (D := { D with nx := tz D }) h k
/-! ### xs[1:], calls with new arguments, xs.pop() -/
theorem cut1 (xs : List V) : cutV xs (some 1) none = xs.drop 1 := by
  unfold cutV
  rw [show HT.sIx xs.length 0 (some 1) = min 1 xs.length from HT.sIx_nat xs.length 0 1, HT.sIx_none]
  cases xs with
  | nil => rfl
  | cons x r =>
    rw [show min 1 (x :: r).length = 1 by
      rw [List.length_cons]
      omega]
    show (List.take ((x :: r).length - 1) r) = r
    rw [List.length_cons, Nat.add_sub_cancel]
    exact List.take_length
def RTL (N : List (List Int)) : R3 := fun _ H2 v => ∃ y, v = .ref y ∧ TLL H2 y N
theorem er_slice1 {N : List (List Int)} {x : Addr} (h : Ev te σ H (.ref x)) (hN : OLLI H0 H x N) : Er (tSl (rSlL K) te (tPart (tC (.int 1))) tNoPart) σ H (RTL (N.drop 1)) := fun H1 e Q q => by
  obtain ⟨as, _, h1, hn, h2⟩ := hN
  refine el_sl h (eo_some ev_c) eo_none (sq_of h1) H1 e _ fun p H2 hp e2 hp2 => q _ H2 e2 ⟨p, rfl, as.drop 1, rfl, ?_, ?_, ?_⟩
  · rw [hp2, cut1, List.map_drop]
  · rw [List.nodup_cons] at hn ⊢
    refine ⟨fun hm => ?_, hn.2.sublist (List.drop_sublist 1 as)⟩
    have hm2 : p ∈ as := List.mem_of_mem_drop hm
    obtain ⟨r, _, hr⟩ := paired_mem h2 hm2
    have := e _ _ hr.2
    rw [hp] at this
    cases this
  · exact paired_drop 1 (paired_mono h2 fun x r q => ⟨rfl, (e.trans e2) _ _ q.2⟩)
theorem ev_callR2 {R1 R2 : R3} {sp : Sp} {E : XK} {t1 t2 : TE} (h1 : Er t1 σ H R1) (h2 : Er t2 σ H R2) (hs : ∀ v1 v2 H1 H2 H3, Ex H H1 → Ex H1 H2 → Ex H2 H3 → R1 H1 H2 v1 → R2 H2 H3 v2 → SpV sp [v1, v2] H3 z) : Ev (tCall sp [] E (tCons t1 (tCons t2 tNil))) σ H z := fun H1 e Q q =>
  h1 H1 e _ fun v1 H2 e2 r1 => h2 H2 (e.trans e2) _ fun v2 H3 e3 r2 => hs v1 v2 H1 H2 H3 e e2 e3 r1 r2 H3 (Ex.refl _) Q (fun H4 e4 => q H4 ((e2.trans e3).trans e4)) E
theorem s_pop {l : Addr} {vs : List V} {y : V} (hl : H l = some (.lst vs)) (ha : Ev ta σ H (.ref l)) (hy : vs[vs.length - 1]? = some y) (k : ∀ H1, Ex H H1 → D.nx σ (upd H1 l (.lst vs.dropLast))) : tDrop (tBM0 K "list" rPop ta) D σ H :=
  ha H (Ex.refl H) _ fun H1 e1 => ⟨.inl ⟨rfl, vs, sq_of (e1 _ _ hl)⟩, l, vs, y, rfl, rfl, e1 _ _ hl, hy, k H1 e1⟩
end
end AT

/-! ## calls whose arguments are new things; the greatest of a list -/
namespace AT
open PySem PySem.Spec PyProof.Rows L2 Evl
section
variable {K : Frag} {σ : St} {H H0 H1 H' : Hp} {ta : TA} {te t1 t2 : TE} {t : TT} {a b p r : Addr} {M : List (List Int)} {xs : List Int} {x y z v : V} {R R1 R2 : R3} {D : Ends} {tu tz : TS} {sp : Sp} {E : XK} {vs : List V}
theorem ev_callR1 (h1 : Er t1 σ H R1) (h2 : EvA ta σ H vs) (hs : ∀ v1 H1 H2 H3, Ex H H1 → Ex H1 H2 → Ex H2 H3 → R1 H1 H2 v1 → SpV sp (v1 :: vs) H3 z) : Ev (tCall sp [] E (tCons t1 ta)) σ H z := fun H1 e Q q =>
  h1 H1 e _ fun v1 H2 e2 r1 => h2 H2 (e.trans e2) _ fun H3 e3 => (by
    show sp ((v1 :: vs) ++ []) H3 Q E
    rw [List.append_nil]
    exact hs v1 H1 H2 H3 e e2 e3 r1 H3 (Ex.refl _) Q (fun H4 e4 => q H4 ((e2.trans e3).trans e4)) E)
theorem er_callR1 (mR : Mon R) (h1 : Er t1 σ H R1) (h2 : EvA ta σ H vs) (hs : ∀ v1 H1 H2 H3, Ex H H1 → Ex H1 H2 → Ex H2 H3 → R1 H1 H2 v1 → SpR sp (v1 :: vs) H3 R) : Er (tCall sp [] E (tCons t1 ta)) σ H R := fun H1 e Q q =>
  h1 H1 e _ fun v1 H2 e2 r1 => h2 H2 (e.trans e2) _ fun H3 e3 => (by
    show sp ((v1 :: vs) ++ []) H3 Q E
    rw [List.append_nil]
    exact hs v1 H1 H2 H3 e e2 e3 r1 H3 (Ex.refl _) Q (fun v H4 e4 r => q v H4 ((e2.trans e3).trans e4) (mR.dn (e2.trans e3) r)) E)
theorem er_callR2 (mR : Mon R) (h1 : Er t1 σ H R1) (h2 : Er t2 σ H R2) (hs : ∀ v1 v2 H1 H2 H3, Ex H H1 → Ex H1 H2 → Ex H2 H3 → R1 H1 H2 v1 → R2 H2 H3 v2 → SpR sp [v1, v2] H3 R) : Er (tCall sp [] E (tCons t1 (tCons t2 tNil))) σ H R := fun H1 e Q q =>
  h1 H1 e _ fun v1 H2 e2 r1 => h2 H2 (e.trans e2) _ fun v2 H3 e3 r2 => hs v1 v2 H1 H2 H3 e e2 e3 r1 r2 H3 (Ex.refl _) Q (fun v H4 e4 r => q v H4 ((e2.trans e3).trans e4) (mR.dn (e2.trans e3) r)) E
/-- x a name, the second new -/
theorem er_evR (h : Ev te σ H v) : Er te σ H (fun _ _ u => u = v) := fun H1 e Q q => h H1 e Q fun H2 e2 => q v H2 e2 rfl

/-! ### max -/
def maxL : List Int → Int
  | [] => 0
  | [x] => x
  | x :: y :: r => if x ≤ maxL (y :: r) then maxL (y :: r) else x
theorem maxL_mem : ∀ {xs : List Int}, xs ≠ [] → maxL xs ∈ xs
  | [], h => absurd rfl h
  | [x], _ => List.mem_cons_self
  | x :: y :: r, _ => by
    unfold maxL
    split
    · exact List.mem_cons_of_mem _ (maxL_mem (by simp))
    · exact List.mem_cons_self
theorem maxL_le : ∀ {xs : List Int} {y : Int}, y ∈ xs → y ≤ maxL xs
  | [x], y, h => by
    have : y = x := by simpa using h
    subst this
    exact Int.le_refl _
  | x :: z :: r, y, h => by
    unfold maxL
    rcases List.mem_cons.mp h with rfl | h
    · split <;> omega
    · have := maxL_le (xs := z :: r) h
      split <;> omega
theorem maxL_eq {xs : List Int} {m : Int} (h1 : m ∈ xs) (h2 : ∀ y, y ∈ xs → y ≤ m) : m = maxL xs :=
  Int.le_antisymm (maxL_le h1) (h2 _ (maxL_mem (fun z => by subst z; cases h1)))
theorem maxL_le_iff {xs : List Int} {b : Int} (h : xs ≠ []) : maxL xs ≤ b ↔ ∀ y, y ∈ xs → y ≤ b :=
  ⟨fun h2 y hy => Int.le_trans (maxL_le hy) h2, fun h2 => h2 _ (maxL_mem h)⟩
theorem ev_max (h : EvL te σ H (xs.map V.int)) (hn : xs ≠ []) : Ev (tCB (rMax K) (tCons te tNil)) σ H (.int (maxL xs)) := fun H1 e Q q =>
  h H1 e _ fun p H2 hp e2 h2 => ⟨p, xs, rfl, sq_of h2, List.length_pos_iff.mpr hn, fun m hm hle => by
    rw [maxL_eq hm hle]
    exact q H2 e2⟩
theorem ev_maxN (h : Ev te σ H (.ref a)) (hL : LI K H a xs) (hn : xs ≠ []) : Ev (tCB (rMax K) (tCons te tNil)) σ H (.int (maxL xs)) := fun H1 e Q q =>
  h H1 e _ fun H2 e2 => ⟨a, xs, rfl, hL.mono (e.trans e2), List.length_pos_iff.mpr hn, fun m hm hle => by
    rw [maxL_eq hm hle]
    exact q H2 e2⟩
/-- [te for x in xs] of ints, over the rows of a list of lists, over a list of ints -/
theorem el_lcRows {tl : TE} {j : Nat} {ws : List Nat} (g : List Int → Int) (h : Ev tl σ H (.ref a)) (hM : LLI K H a M) (hz : M.length ≤ 40000) (hw : ∀ x, wipe ((wipe σ ws).set j (some x)) ws = wipe σ ws)
    (he : ∀ x r H1, Ex H H1 → r ∈ M → LI K H1 x r → Ev te ((wipe σ ws).set j (some (.ref x))) H1 (.int (g r))) : EvL (tLc (iList K tl) (gName j) tYes te ws) σ H ((M.map g).map V.int) := by
  obtain ⟨as, h1, h2⟩ := hM
  have hl := h2.length
  have := el_lcL (K := K) (te := te) (t := tYes) (fun _ => true) (fun i => .int (g (M.getD i []))) h h1 (by rw [List.length_map]; omega) hw (fun _ _ _ _ _ _ _ Q q => q _ (Ex.refl _)) (fun i x H1 e1 hx _ => by
    rw [List.getElem?_map] at hx
    cases hy : as[i]? with
    | none => rw [hy] at hx; cases hx
    | some y =>
      rw [hy] at hx
      cases hx
      obtain ⟨r, q1, q2⟩ := paired_getL h2 hy
      rw [List.getD_eq_getElem?_getD, q1]
      exact he y r H1 e1 (List.mem_of_getElem? q1) (q2.mono e1))
  unfold given at this
  rw [filt_all, List.length_map, hl] at this
  have e : (List.range M.length).map (fun i => V.int (g (M.getD i []))) = (M.map g).map V.int := by
    rw [List.map_map]
    conv => rhs; rw [list_eq_range' [] M]
    rw [List.map_map]; rfl
  rw [e] at this
  exact this
where
  list_eq_range' {α : Type} (d : α) (l : List α) : l = (List.range l.length).map fun i => l.getD i d := by
    apply List.ext_getElem
    · simp
    · intro i h1 h2
      simp [List.getD_eq_getElem?_getD, h1]
theorem el_lcInts {tl : TE} {j : Nat} {ws : List Nat} (g : Int → Int) (h : Ev tl σ H (.ref a)) (hM : LI K H a xs) (hz : xs.length ≤ 40000) (hw : ∀ x, wipe ((wipe σ ws).set j (some x)) ws = wipe σ ws)
    (he : ∀ x H1, Ex H H1 → Ev te ((wipe σ ws).set j (some (.int x))) H1 (.int (g x))) : EvL (tLc (iList K tl) (gName j) tYes te ws) σ H ((xs.map g).map V.int) := by
  have := el_lcL (K := K) (te := te) (t := tYes) (fun _ => true) (fun i => .int (g (xs.getD i 0))) h hM (by rw [List.length_map]; omega) hw (fun _ _ _ _ _ _ _ Q q => q _ (Ex.refl _)) (fun i x H1 e1 hx _ => by
    rw [List.getElem?_map] at hx
    cases hy : xs[i]? with
    | none => rw [hy] at hx; cases hx
    | some y =>
      rw [hy] at hx
      cases hx
      rw [List.getD_eq_getElem?_getD, hy]
      exact he y H1 e1)
  unfold given at this
  rw [filt_all, List.length_map] at this
  have e : (List.range xs.length).map (fun i => V.int (g (xs.getD i 0))) = (xs.map g).map V.int := by
    rw [List.map_map]
    apply List.ext_getElem
    · simp
    · intro i h1 h2
      simp at h1
      simp [List.getD_eq_getElem?_getD, h1]
  rw [e] at this
  exact this
end
/-! ### calls of the known defs -/
end AT

/-! ## chains of comparisons, ifs on a known number, rows changed -/
namespace AT
open PySem PySem.Spec PyProof.Rows L2 Evl
section
variable {K : Frag} {σ : St} {H H0 H1 H' : Hp} {ta tb tc te t1 t2 : TE} {t : TT} {a b p r : Addr} {M : List (List Int)} {xs : List Int} {x y z v : V} {R Ra Rb : R3} {D : Ends} {tu tz : TS}
theorem ev_chain {r r' : R2} {k1 k2 : Bool} (ha : Ev ta σ H x) (hb : Ev tb σ H y) (hr : RV r x y H (.bl k1)) (hc : Ev tc σ H z) (hr' : RV r' y z H (.bl k2)) : Ev (tChain r r' ta tb tc) σ H (.bl (k1 && k2)) := fun H1 e Q q =>
  ha H1 e _ fun H2 e2 => hb H2 (e.trans e2) _ fun H3 e3 => hr H3 ((e.trans e2).trans e3) _ fun H4 e4 => ⟨k1, rfl, by
    cases k1 with
    | false =>
      rw [if_neg Bool.false_ne_true]
      exact q H4 ((e2.trans e3).trans e4)
    | true =>
      rw [if_pos rfl]
      exact hc H4 (((e.trans e2).trans e3).trans e4) _ fun H5 e5 => hr' H5 ((((e.trans e2).trans e3).trans e4).trans e5) _ fun H6 e6 => q H6 (((e2.trans e3).trans e4).trans (e5.trans e6))⟩
theorem q_skip {i : Nat} {m k : Int} (h : σ[i]? = some (some (.int m))) (hm : m ≠ k) (q : tz D σ H) : tSeq (tIfS (tTest (tOp rEq (tVar i) (tC (.int k)))) tu tNext) tz D σ H :=
  ⟨.int m, h, rfl, _, rfl, by
    have : ¬ (V.int m = V.int k) := fun e => hm (by injection e)
    show (if decide (V.int m = V.int k) = true then _ else _)
    rw [if_neg (by simp [this])]
    exact q⟩
theorem q_take {i : Nat} {m k : Int} (h : σ[i]? = some (some (.int m))) (hm : m = k) (q : tu { D with nx := tz D } σ H) : tSeq (tIfS (tTest (tOp rEq (tVar i) (tC (.int k)))) tu tNext) tz D σ H :=
  ⟨.int m, h, rfl, _, rfl, by
    subst hm
    show (if decide (V.int m = V.int m) = true then _ else _)
    rw [if_pos (by simp)]
    exact q⟩
theorem s_skip {i : Nat} {m k : Int} (h : σ[i]? = some (some (.int m))) (hm : m ≠ k) (q : D.nx σ H) : tIfS (tTest (tOp rEq (tVar i) (tC (.int k)))) tu tNext D σ H :=
  ⟨.int m, h, rfl, _, rfl, by
    have : ¬ (V.int m = V.int k) := fun e => hm (by injection e)
    show (if decide (V.int m = V.int k) = true then _ else _)
    rw [if_neg (by simp [this])]
    exact q⟩
theorem s_take {i : Nat} {m k : Int} (h : σ[i]? = some (some (.int m))) (hm : m = k) (q : tu D σ H) : tIfS (tTest (tOp rEq (tVar i) (tC (.int k)))) tu tNext D σ H :=
  ⟨.int m, h, rfl, _, rfl, by
    subst hm
    show (if decide (V.int m = V.int m) = true then _ else _)
    rw [if_pos (by simp)]
    exact q⟩
theorem paired_eraseIdx {α β : Type} {F : α → β → Prop} : ∀ {l₁ : List α} {l₂ : List β} (n : Nat), Paired F l₁ l₂ → Paired F (l₁.eraseIdx n) (l₂.eraseIdx n)
  | _, _, _, .nil => by simp only [List.eraseIdx_nil]; exact .nil
  | _, _, 0, .cons _ t => t
  | _, _, n + 1, .cons r t => .cons r (paired_eraseIdx n t)
theorem map_erase {α β : Type} (f : α → β) : ∀ (l : List α) (i : Nat), (l.map f).eraseIdx i = (l.eraseIdx i).map f
  | [], i => by simp
  | a :: r, 0 => rfl
  | a :: r, n + 1 => by simp [map_erase f r n]
/-- a row of a tracked list of lists, and what becomes of all where it is put otherwise -/
theorem OLLI.row_upd {i : Nat} {row : List Int} (h : OLLI H0 H p M) (e : M[i]? = some row) : ∃ (as : List Addr) (x : Addr), H p = some (.lst (as.map V.ref)) ∧ as[i]? = some x ∧ H0 x = none ∧ H x = some (.lst (row.map V.int)) ∧
    ∀ H1 row', Ex H H1 → OLLI H0 (upd H1 x (.lst (row'.map V.int))) p (M.set i row') := by
  obtain ⟨as, h0, h1, hn, h2⟩ := h
  obtain ⟨x, ex, qx⟩ := paired_get h2 e
  refine ⟨as, x, h1, ex, qx.1, qx.2, fun H1 row' eH => ?_⟩
  rw [List.nodup_cons] at hn
  have hxm : x ∈ as := List.mem_of_getElem? ex
  have hpx : p ≠ x := fun z => hn.1 (z ▸ hxm)
  refine ⟨as, h0, by rw [upd_ne hpx]; exact eH _ _ h1, List.nodup_cons.mpr hn, ?_⟩
  refine paired_of (by rw [List.length_set, h2.length]) fun k y r hy hr => ?_
  by_cases hk : k = i
  · subst hk
    rw [ex] at hy; cases hy
    have hlt : k < M.length := (List.getElem?_eq_some_iff.mp e).1
    rw [List.getElem?_set_self hlt] at hr
    cases hr
    exact ⟨qx.1, upd_same⟩
  · rw [List.getElem?_set_ne (Ne.symm hk)] at hr
    obtain ⟨z, hz, qz⟩ := paired_get h2 hr
    rw [hy] at hz; cases hz
    have hne : y ≠ x := fun e2 => hk (by
      subst e2
      obtain ⟨a1, b1⟩ := List.getElem?_eq_some_iff.mp hy
      obtain ⟨a2, b2⟩ := List.getElem?_eq_some_iff.mp ex
      exact (List.getElem_inj hn.2).mp (b1.trans b2.symm))
    exact ⟨qz.1, by rw [upd_ne hne]; exact eH _ _ qz.2⟩
theorem OLLI.erase (h : OLLI H0 H p M) (i : Nat) : ∃ vs : List V, H p = some (.lst vs) ∧ vs.length = M.length ∧ ∀ H1, Ex H H1 → OLLI H0 (upd H1 p (.lst (vs.eraseIdx i))) p (M.eraseIdx i) := by
  obtain ⟨as, h0, h1, hn, h2⟩ := h
  refine ⟨as.map V.ref, h1, by rw [List.length_map, h2.length], fun H1 e => ⟨as.eraseIdx i, h0, ?_, ?_, ?_⟩⟩
  · rw [upd_same, map_erase]
  · rw [List.nodup_cons] at hn ⊢
    exact ⟨fun hm => hn.1 ((List.eraseIdx_sublist as i).subset hm), hn.2.sublist (List.eraseIdx_sublist as i)⟩
  · rw [List.nodup_cons] at hn
    have h3 : Paired (fun x r => OLI H0 H1 x r) as M := paired_mono h2 fun _ _ q => q.mono e
    refine paired_mem_mono (paired_eraseIdx i h3) fun x r hx q => ⟨q.1, ?_⟩
    have hxa : x ∈ as := (List.eraseIdx_sublist as i).subset hx
    rw [upd_ne (fun z : x = p => hn.1 (z ▸ hxa))]
    exact q.2
theorem seqIx {i n : Nat} (h : i < n) : seqIndex? (i : Int) n = some i := by
  unfold seqIndex?
  have e : (if (i : Int) < 0 then (i : Int) + (n : Int) else (i : Int)) = (i : Int) := if_neg (by omega)
  simp only [e]
  rw [if_pos (by simp; omega)]
  simp
/-- [te] of a new list -/
theorem er_lstM {row : List Int} (h : Er te σ H (RL row)) : Er (tLst (tCons te tNil)) σ H (RM [row]) := fun H1 e Q q =>
  h H1 e (fun x H2 => [x].length ≤ sizeLine ∧ ∀ p, H2 p = none → Q (.ref p) (upd H2 p (.lst [x]))) fun v H2 e2 ⟨r, hv, hr, hr2⟩ => by
    subst hv
    exact ⟨by show 1 ≤ sizeLine; decide, fun p hp => q _ _ (e2.trans (Ex.new hp)) ⟨p, rfl, [r], fresh_back e2 hp, upd_same, by simpa using (ne_of_none hr2 hp).symm, .cons ⟨hr, by rw [upd_ne (ne_of_none hr2 hp)]; exact hr2⟩ .nil⟩⟩
/-- a call for its own sake, the first argument new -/
theorem s_dropR1 {sp : Sp} {E : XK} {dvs : List V} {ta : TA} (h1 : Er te σ H R) (k : ∀ v H1, Ex H H1 → R H H1 v → ta σ H1 (fun vs H2 => sp ((v :: vs) ++ dvs) H2 (fun _ H3 => D.nx σ H3) E)) : tDrop (tCall sp dvs E (tCons te ta)) D σ H :=
  h1 H (Ex.refl _) (fun x H2 => ta σ H2 fun xs H3 => sp ((x :: xs) ++ dvs) H3 (fun _ H4 => D.nx σ H4) E) k
/-- x = f(..) in a try, f(..) in a try -/
theorem s_asgS {sp : Sp} {Ef : L2.St → XK} {i : Nat} {ta : TA} {vs : List V} (h : EvA ta σ H vs) (k : ∀ H1, Ex H H1 → sp vs H1 (fun v H2 => D.nx (σ.set i (some v)) H2) (Ef σ)) : tAsg (tCallS sp Ef ta) (gName i) D σ H := h H (Ex.refl H) _ k
theorem s_dropS {sp : Sp} {Ef : L2.St → XK} {ta : TA} {vs : List V} (h : EvA ta σ H vs) (k : ∀ H1, Ex H H1 → sp vs H1 (fun _ H2 => D.nx σ H2) (Ef σ)) : tDrop (tCallS sp Ef ta) D σ H := h H (Ex.refl H) _ k
/-- xs.pop(i) as a statement -/
theorem s_popAt {l : Addr} {vs : List V} {i : Nat} (hl : H l = some (.lst vs)) (ha : Ev ta σ H (.ref l)) (hi : Ev tb σ H (.int (i : Int))) (hin : i < vs.length) (hs : vs.length ≤ 100000) (k : ∀ H1, Ex H H1 → D.nx σ (upd H1 l (.lst (vs.eraseIdx i)))) : tDrop (tBM K "list" rPopAt ta (tCons tb tNil)) D σ H :=
  ha H (Ex.refl H) _ fun H1 e1 => ⟨.inl ⟨rfl, vs, sq_of (e1 _ _ hl)⟩, hi H1 e1 _ fun H2 e2 => ⟨l, vs, (i : Int), i, vs[i], rfl, rfl, (e1.trans e2) _ _ hl, by omega, by omega, seqIx hin, List.getElem?_eq_getElem hin, k H2 (e1.trans e2)⟩⟩
end
end AT

/-! ## data that can be compared: < and its fellows -/
namespace AT
open PySem PySem.Spec PyProof.Rows L2 Evl
section
variable {X : Cx}
def rGtD (K : Frag) : R2 := fun x y H Q => ∃ d e, Dp K H x d ∧ Dp K H y e ∧ PySem.W.alike d e = true ∧ d ≠ .none ∧ d.depth ≤ 60 ∧ Q (.bl (PySem.W.dataLt e d)) H
def rLtD (K : Frag) : R2 := fun x y H Q => ∃ d e, Dp K H x d ∧ Dp K H y e ∧ PySem.W.alike d e = true ∧ d ≠ .none ∧ d.depth ≤ 60 ∧ Q (.bl (PySem.W.dataLt d e)) H
def rGeD (K : Frag) : R2 := fun x y H Q => ∃ d e, Dp K H x d ∧ Dp K H y e ∧ PySem.W.alike d e = true ∧ d ≠ .none ∧ d.depth ≤ 60 ∧ Q (.bl (!PySem.W.dataLt d e)) H
def rLeD (K : Frag) : R2 := fun x y H Q => ∃ d e, Dp K H x d ∧ Dp K H y e ∧ PySem.W.alike d e = true ∧ d ≠ .none ∧ d.depth ≤ 60 ∧ Q (.bl (!PySem.W.dataLt e d)) H
theorem gtDK (K : Frag) (hu : X.A.units + 64 < cLine) (h : X.K = K := by rfl) : OpR X (compareOp .Gt) (rGtD K) := by
  subst h
  intro pins s σ H x y v u Q I rx ry h
  obtain ⟨d, e, hd, he, ha, hn, hdp, q⟩ := h
  obtain ⟨as, r1⟩ := Dp.reads I d x v hd rx
  obtain ⟨bs, r2⟩ := Dp.reads I e y u he ry
  exact PySem.W.gt_data r1 r2 ha hn (by omega) ⟨.bl _, H, I, rfl, q⟩
theorem ltDK (K : Frag) (hu : X.A.units + 64 < cLine) (h : X.K = K := by rfl) : OpR X (compareOp .Lt) (rLtD K) := by
  subst h
  intro pins s σ H x y v u Q I rx ry h
  obtain ⟨d, e, hd, he, ha, hn, hdp, q⟩ := h
  obtain ⟨as, r1⟩ := Dp.reads I d x v hd rx
  obtain ⟨bs, r2⟩ := Dp.reads I e y u he ry
  exact PySem.W.lt_data r1 r2 ha hn (by omega) ⟨.bl _, H, I, rfl, q⟩
theorem geDK (K : Frag) (hu : X.A.units + 64 < cLine) (h : X.K = K := by rfl) : OpR X (compareOp .GtE) (rGeD K) := by
  subst h
  intro pins s σ H x y v u Q I rx ry h
  obtain ⟨d, e, hd, he, ha, hn, hdp, q⟩ := h
  obtain ⟨as, r1⟩ := Dp.reads I d x v hd rx
  obtain ⟨bs, r2⟩ := Dp.reads I e y u he ry
  exact PySem.W.ge_data r1 r2 ha hn (by omega) ⟨.bl _, H, I, rfl, q⟩
theorem leDK (K : Frag) (hu : X.A.units + 64 < cLine) (h : X.K = K := by rfl) : OpR X (compareOp .LtE) (rLeD K) := by
  subst h
  intro pins s σ H x y v u Q I rx ry h
  obtain ⟨d, e, hd, he, ha, hn, hdp, q⟩ := h
  obtain ⟨as, r1⟩ := Dp.reads I d x v hd rx
  obtain ⟨bs, r2⟩ := Dp.reads I e y u he ry
  exact PySem.W.le_data r1 r2 ha hn (by omega) ⟨.bl _, H, I, rfl, q⟩
end
section
variable {K : Frag} {H : Hp} {α : Type} [DecidableEq α] [PySem.W.DatumOrd α] {x y : V} {a b : α}
theorem rv_gtD (hx : ∀ H1, Ex H H1 → Dp K H1 x (PySem.W.Datum.toD a)) (hy : ∀ H1, Ex H H1 → Dp K H1 y (PySem.W.Datum.toD b)) (hd : PySem.W.Datum.depth α ≤ 60) : RV (rGtD K) x y H (.bl (PySem.W.DatumOrd.lt b a)) := fun H1 e Q q =>
  ⟨_, _, hx H1 e, hy H1 e, PySem.W.DatumOrd.alike a b, PySem.W.DatumOrd.notNone a, Nat.le_trans (PySem.W.Datum.depth_le a) hd, by rw [PySem.W.DatumOrd.lt_eq]; exact q H1 (Ex.refl _)⟩
theorem rv_ltD (hx : ∀ H1, Ex H H1 → Dp K H1 x (PySem.W.Datum.toD a)) (hy : ∀ H1, Ex H H1 → Dp K H1 y (PySem.W.Datum.toD b)) (hd : PySem.W.Datum.depth α ≤ 60) : RV (rLtD K) x y H (.bl (PySem.W.DatumOrd.lt a b)) := fun H1 e Q q =>
  ⟨_, _, hx H1 e, hy H1 e, PySem.W.DatumOrd.alike a b, PySem.W.DatumOrd.notNone a, Nat.le_trans (PySem.W.Datum.depth_le a) hd, by rw [PySem.W.DatumOrd.lt_eq]; exact q H1 (Ex.refl _)⟩
theorem rv_geD (hx : ∀ H1, Ex H H1 → Dp K H1 x (PySem.W.Datum.toD a)) (hy : ∀ H1, Ex H H1 → Dp K H1 y (PySem.W.Datum.toD b)) (hd : PySem.W.Datum.depth α ≤ 60) : RV (rGeD K) x y H (.bl (!PySem.W.DatumOrd.lt a b)) := fun H1 e Q q =>
  ⟨_, _, hx H1 e, hy H1 e, PySem.W.DatumOrd.alike a b, PySem.W.DatumOrd.notNone a, Nat.le_trans (PySem.W.Datum.depth_le a) hd, by rw [PySem.W.DatumOrd.lt_eq]; exact q H1 (Ex.refl _)⟩
theorem rv_leD (hx : ∀ H1, Ex H H1 → Dp K H1 x (PySem.W.Datum.toD a)) (hy : ∀ H1, Ex H H1 → Dp K H1 y (PySem.W.Datum.toD b)) (hd : PySem.W.Datum.depth α ≤ 60) : RV (rLeD K) x y H (.bl (!PySem.W.DatumOrd.lt b a)) := fun H1 e Q q =>
  ⟨_, _, hx H1 e, hy H1 e, PySem.W.DatumOrd.alike a b, PySem.W.DatumOrd.notNone a, Nat.le_trans (PySem.W.Datum.depth_le a) hd, by rw [PySem.W.DatumOrd.lt_eq]; exact q H1 (Ex.refl _)⟩
end
abbrev ltI (xs ys : List Int) : Bool := PySem.W.listLt xs ys
abbrev ltM (M N : List (List Int)) : Bool := PySem.W.listLt M N
theorem toD_I (xs : List Int) : PySem.W.Datum.toD xs = PyData.list (dI xs) := rfl
theorem toD_M (M : List (List Int)) : PySem.W.Datum.toD M = PyData.list (dM M) := rfl
theorem rv_gtI {K : Frag} {H : Hp} {a b : Addr} {xs ys : List Int} (ha : LI K H a xs) (hb : LI K H b ys) : RV (rGtD K) (.ref a) (.ref b) H (.bl (ltI ys xs)) :=
  rv_gtD (a := xs) (b := ys) (fun H1 e => (ha.mono e).dp) (fun H1 e => (hb.mono e).dp) (by decide)
end AT

/-! ## the least of data -/
namespace AT
open PySem PySem.Spec PyProof.Rows L2 Evl
section
variable {X : Cx}
def rMinD (K : Frag) : List V → Hp → VK → Prop := fun vs H Q => ∃ (a : Addr) (xs : List V) (d : PyData) (ds : List PyData), vs = [V.ref a] ∧ SqL K H a xs ∧ DpAll K H xs (d :: ds) ∧ PySem.W.AlikeAll (d :: ds) ∧ PyData.depthAll (d :: ds) ≤ 60 ∧
  ∀ (i : Nat) v, xs[i]? = some v → (d :: ds)[i]? = some (PySem.W.minD d ds) → Q v H
theorem minDK (K : Frag) (hc : X.calm = true) (hu : X.A.units + 64 < cLine) (h : X.K = K := by rfl) : CallR X (.builtin "min") (rMinD K) := by
  subst h
  intro pins s σ H vs us Q I r h
  obtain ⟨a, xs, d, ds, rfl, hs, hD, ha, hdp, q⟩ := h
  obtain ⟨its, rv, hl, _⟩ := I.list hs
  rw [Vals.ref1 r]
  obtain ⟨as, hr⟩ := Dp.readsAll I (d :: ds) xs its hD rv
  refine PySem.W.min_list_data (vs := its.toArray) (I.ok.hd hc) hl.isList (show ReadsAll s.heap its.toArray.toList (d :: ds) as from hr) ha (by omega) fun i v h' tk bs hv r' hk => ?_
  have hv' : its[i]? = some v := by rw [← hv]; simp
  have hil : i < its.length := (List.getElem?_eq_some_iff.mp hv').1
  obtain ⟨x, hx⟩ : ∃ x, xs[i]? = some x := by
    have hlen := rv.length
    exact ⟨_, List.getElem?_eq_getElem (by omega)⟩
  obtain ⟨u, hu1, hu2⟩ := rv.get hx
  rw [hv'] at hu1
  injection hu1 with hu1
  subst hu1
  obtain ⟨cs, r1, hil2, hmem, _⟩ := PySem.W.readsAll_at hr i v hv'
  have hmin : PySem.W.minD d ds ∈ d :: ds := by
    unfold PySem.W.minD
    have key : ∀ (l : List PyData) (a : PyData), l.foldl (fun a y => if PySem.W.dataLt y a then y else a) a ∈ a :: l := fun l => by
      induction l with
      | nil => exact fun a => List.mem_cons_self
      | cons y l ih =>
        intro a
        rw [List.foldl_cons]
        have := ih (if PySem.W.dataLt y a then y else a)
        rcases List.mem_cons.mp this with h | h
        · rw [h]
          split
          · exact List.mem_cons_of_mem _ List.mem_cons_self
          · exact List.mem_cons_self
        · exact List.mem_cons_of_mem _ (List.mem_cons_of_mem _ h)
    exact key ds d
  have e : (d :: ds).getD i PyData.none = PySem.W.minD d ds := PySem.W.alike_unique _ _ v _ _ (ha.1 _ hmem _ hmin) (Reads.keeps hk r1) r'
  refine ⟨x, H, I.kept hk, hu2, q i x hx ?_⟩
  rw [← e, List.getD_eq_getElem?_getD, List.getElem?_eq_getElem hil2]
  rfl
end
/-! ### an order without ties -/
structure Lin (α : Type) [DecidableEq α] [PySem.W.DatumOrd α] : Prop where
  irr : ∀ a : α, PySem.W.DatumOrd.lt a a = false
  tr : ∀ a b c : α, PySem.W.DatumOrd.lt a b = true → PySem.W.DatumOrd.lt b c = true → PySem.W.DatumOrd.lt a c = true
  tot : ∀ a b : α, a ≠ b → PySem.W.DatumOrd.lt a b = true ∨ PySem.W.DatumOrd.lt b a = true
theorem lin_int : Lin Int := ⟨fun a => by show decide (a < a) = false; simp, fun a b c h1 h2 => by
  have h1 : decide (a < b) = true := h1
  have h2 : decide (b < c) = true := h2
  show decide (a < c) = true
  rw [decide_eq_true_eq] at *
  omega, fun a b h => by
  show decide (a < b) = true ∨ decide (b < a) = true
  rw [decide_eq_true_eq, decide_eq_true_eq]
  omega⟩
section
variable {α : Type} [DecidableEq α] [PySem.W.DatumOrd α]
theorem lex_irr (L : Lin α) : ∀ xs : List α, PySem.W.listLt xs xs = false
  | [] => rfl
  | x :: xs => by
    rw [PySem.W.listLt, if_pos rfl]
    exact lex_irr L xs
theorem lex_tr (L : Lin α) : ∀ xs ys zs : List α, PySem.W.listLt xs ys = true → PySem.W.listLt ys zs = true → PySem.W.listLt xs zs = true
  | [], [], _, h, _ => by cases h
  | [], _ :: _, [], _, h => by cases h
  | [], _ :: _, _ :: _, _, _ => rfl
  | _ :: _, [], _, h, _ => by cases h
  | _ :: _, _ :: _, [], _, h => by cases h
  | x :: xs, y :: ys, z :: zs, h1, h2 => by
    rw [PySem.W.listLt] at h1 h2 ⊢
    by_cases e1 : x = y
    · subst e1
      rw [if_pos rfl] at h1
      by_cases e2 : x = z
      · rw [if_pos e2] at h2 ⊢
        exact lex_tr L xs ys zs h1 h2
      · rw [if_neg e2] at h2 ⊢
        exact h2
    · rw [if_neg e1] at h1
      by_cases e2 : y = z
      · subst e2
        rw [if_neg e1]
        exact h1
      · rw [if_neg e2] at h2
        have h3 := L.tr x y z h1 h2
        by_cases e3 : x = z
        · subst e3
          rw [L.irr x] at h3
          cases h3
        · rw [if_neg e3]
          exact h3
theorem lex_tot (L : Lin α) : ∀ xs ys : List α, xs ≠ ys → PySem.W.listLt xs ys = true ∨ PySem.W.listLt ys xs = true
  | [], [], h => absurd rfl h
  | [], _ :: _, _ => .inl rfl
  | _ :: _, [], _ => .inr rfl
  | x :: xs, y :: ys, h => by
    rw [PySem.W.listLt, PySem.W.listLt]
    by_cases e : x = y
    · rw [if_pos e, if_pos e.symm]
      exact lex_tot L xs ys fun z => h (by rw [e, z])
    · rw [if_neg e, if_neg (Ne.symm e)]
      exact L.tot x y e
theorem lin_list (L : Lin α) : Lin (List α) := ⟨lex_irr L, lex_tr L, lex_tot L⟩
theorem minOf_mem : ∀ (xs : List α) (x : α), PySem.W.minOf x xs ∈ x :: xs
  | [], x => List.mem_cons_self
  | y :: xs, x => by
    have e : PySem.W.minOf x (y :: xs) = PySem.W.minOf (if PySem.W.DatumOrd.lt y x = true then y else x) xs := rfl
    rw [e]
    rcases List.mem_cons.mp (minOf_mem xs (if PySem.W.DatumOrd.lt y x = true then y else x)) with h | h
    · rw [h]
      split
      · exact List.mem_cons_of_mem _ List.mem_cons_self
      · exact List.mem_cons_self
    · exact List.mem_cons_of_mem _ (List.mem_cons_of_mem _ h)
theorem lin_nlt (L : Lin α) {a b c : α} (h1 : PySem.W.DatumOrd.lt b a = false) (h2 : PySem.W.DatumOrd.lt c b = false) : PySem.W.DatumOrd.lt c a = false := by
  by_cases e1 : a = b
  · rw [e1]; exact h2
  · by_cases e2 : b = c
    · rw [← e2]; exact h1
    · have h3 := (L.tot a b e1).resolve_right (by rw [h1]; decide)
      have h4 := (L.tot b c e2).resolve_right (by rw [h2]; decide)
      have h5 := L.tr a b c h3 h4
      cases h : PySem.W.DatumOrd.lt c a with
      | false => rfl
      | true =>
        have := L.tr a c a h5 h
        rw [L.irr a] at this
        cases this
theorem minOf_le (L : Lin α) : ∀ (xs : List α) (x : α), ∀ y ∈ x :: xs, PySem.W.DatumOrd.lt y (PySem.W.minOf x xs) = false
  | [], x, y, hy => by
    rw [List.mem_singleton.mp hy]
    exact L.irr x
  | z :: xs, x, y, hy => by
    have e : PySem.W.minOf x (z :: xs) = PySem.W.minOf (if PySem.W.DatumOrd.lt z x = true then z else x) xs := rfl
    rw [e]
    have ih := minOf_le L xs (if PySem.W.DatumOrd.lt z x = true then z else x)
    rcases List.mem_cons.mp hy with rfl | hy
    · have h1 := ih _ List.mem_cons_self
      refine lin_nlt L h1 ?_
      split
      · rename_i h
        cases h2 : PySem.W.DatumOrd.lt y z with
        | false => rfl
        | true =>
          have := L.tr _ _ _ h h2
          rw [L.irr] at this
          cases this
      · exact L.irr y
    · rcases List.mem_cons.mp hy with rfl | hy
      · have h1 := ih _ List.mem_cons_self
        refine lin_nlt L h1 ?_
        split
        · exact L.irr y
        · rename_i h
          simpa using h
      · exact ih y (List.mem_cons_of_mem _ hy)
theorem min_uniq (L : Lin α) {x x' : α} {xs xs' : List α} (h : ∀ y, y ∈ x :: xs ↔ y ∈ x' :: xs') : PySem.W.minOf x xs = PySem.W.minOf x' xs' := by
  have h1 := minOf_le L xs x _ ((h _).mpr (minOf_mem xs' x'))
  have h2 := minOf_le L xs' x' _ ((h _).mp (minOf_mem xs x))
  by_cases e : PySem.W.minOf x xs = PySem.W.minOf x' xs'
  · exact e
  · rcases L.tot _ _ e with z | z
    · rw [h2] at z; cases z
    · rw [h1] at z; cases z
theorem toD_inj {a b : α} (h : PySem.W.Datum.toD a = PySem.W.Datum.toD b) : a = b := by
  have h1 := PySem.W.Datum.eqv a b
  rw [h, PySem.W.Datum.eqv b b] at h1
  exact of_decide_eq_true (by rw [← h1]; simp)
end
abbrev Mat := List (List Int)
theorem lin_M : Lin Mat := lin_list (lin_list lin_int)
/-- the least of them, none of none -/
def minL : List Mat → Mat
  | [] => []
  | x :: xs => PySem.W.minOf x xs
theorem minL_mem {l : List Mat} (h : l ≠ []) : minL l ∈ l := by
  cases l with
  | nil => exact absurd rfl h
  | cons x xs => exact minOf_mem xs x
theorem minL_eq {l l' : List Mat} (h : ∀ y, y ∈ l ↔ y ∈ l') : minL l = minL l' := by
  cases l with
  | nil =>
    cases l' with
    | nil => rfl
    | cons x xs => exact absurd ((h x).mpr List.mem_cons_self) (by simp)
  | cons x xs =>
    cases l' with
    | nil => exact absurd ((h x).mp List.mem_cons_self) (by simp)
    | cons y ys => exact min_uniq lin_M h
section
variable {K : Frag} {σ : St} {H : Hp} {te : TE}
theorem dpAll_RM {H1 H2 : Hp} {M : Nat → Mat} : ∀ {vs : List V} {idx : List Nat}, Paired (fun v j => RM (M j) H1 H2 v) vs idx → DpAll K H2 vs (idx.map fun j => PySem.W.Datum.toD (M j))
  | _, _, .nil => .nil
  | _, _, .cons ⟨_, hv, hO⟩ t => by
    subst hv
    exact .cons hO.lli.dp (dpAll_RM t)
theorem er_minRM {idx : List Nat} {M : Nat → Mat} (h : Er te σ H (RLs idx fun i => RM (M i))) (hne : idx ≠ []) : Er (tCB (rMinD K) (tCons te tNil)) σ H (RM (minL (idx.map M))) := fun H1 e Q q =>
  h H1 e _ fun v H2 e2 ⟨p, vs, hv, hp, hp2, hP⟩ => by
    subst hv
    cases idx with
    | nil => exact absurd rfl hne
    | cons i0 idx =>
      have hmap : ∀ l : List Nat, (l.map fun j => (PySem.W.Datum.toD (M j) : PyData)) = (l.map M).map PySem.W.Datum.toD := fun l => by rw [List.map_map]; rfl
      have hD := dpAll_RM (K := K) hP
      rw [hmap] at hD
      refine ⟨p, vs, PySem.W.Datum.toD (M i0), (idx.map M).map PySem.W.Datum.toD, rfl, sq_of hp2, hD, ⟨fun x hx y hy => ?_, fun x hx => ?_⟩, ?_, fun i v hvi hdi => ?_⟩
      · obtain ⟨x, _, rfl⟩ := List.mem_map.mp (show x ∈ (M i0 :: idx.map M).map PySem.W.Datum.toD from hx)
        obtain ⟨y, _, rfl⟩ := List.mem_map.mp (show y ∈ (M i0 :: idx.map M).map PySem.W.Datum.toD from hy)
        exact PySem.W.DatumOrd.alike x y
      · obtain ⟨x, _, rfl⟩ := List.mem_map.mp (show x ∈ (M i0 :: idx.map M).map PySem.W.Datum.toD from hx)
        exact PySem.W.DatumOrd.notNone x
      · exact Nat.le_trans (PySem.W.depthAll_map (M i0 :: idx.map M)) (by decide)
      · obtain ⟨j, hj1, hj2⟩ := paired_getL hP hvi
        rw [PySem.W.minD_map] at hdi
        have h3 : ((M i0 :: idx.map M).map PySem.W.Datum.toD)[i]? = some (PySem.W.Datum.toD (PySem.W.minOf (M i0) (idx.map M))) := hdi
        rw [← List.map_cons, List.getElem?_map, List.getElem?_map, hj1] at h3
        have h4 : PySem.W.Datum.toD (M j) = PySem.W.Datum.toD (PySem.W.minOf (M i0) (idx.map M)) := Option.some.inj h3
        have h5 : M j = minL ((i0 :: idx).map M) := toD_inj h4
        refine q v H2 e2 ?_
        rw [← h5]
        exact hj2
end
end AT

/-! ## // of any size; [.. for x, y in zip(a, b)]; rows put in their place -/
namespace AT
open PySem PySem.Spec PyProof.Rows L2 Evl
def CFdX (_ j : Int) : Prop := j ≠ 0 ∧ j.natAbs.log2 < 9000
theorem op_fdivX {X : Cx} : OpR X (binaryOp .FloorDiv) (rI CFdX fun i j => .int (i.fdiv j)) := opI fun _ _ _ _ _ _ _ hc q => floordiv_int hc.1 q (.inl (PyProof.noPylong_of_log2 hc.2))
section
variable {K : Frag} {σ : St} {H H0 : Hp} {te ta tb : TE} {a b p : Addr} {D : Ends} {tz : TS}
theorem el_lcZ {tA : TA} {i1 i2 : Nat} {vs : List Nat} {xs ys : List V} (v : Nat → V) (h : EvA tA σ H [.ref a, .ref b]) (ha : SqL K H a xs) (hb : SqL K H b ys) (hl : xs.length = ys.length) (hz : xs.length ≤ 40000)
    (hw : ∀ x y, wipe (((wipe σ vs).set i1 (some x)).set i2 (some y)) vs = wipe σ vs)
    (he : ∀ (i : Nat) x y H1, Ex H H1 → xs[i]? = some x → ys[i]? = some y → Ev te (((wipe σ vs).set i1 (some x)).set i2 (some y)) H1 (v i)) :
    EvL (tLc (iZip K tA) (gTup K 2 (gCons (gName i1) (gCons (gName i2) gNil))) tYes te vs) σ H (given xs.length (fun _ => true) v) := fun H0 e Q q => h H0 e _ fun H1 e1 =>
  ⟨a, b, xs, ys, rfl, ex_l (e.trans e1) ha, ex_l (e.trans e1) hb, fun Dl hD =>
    lc_it (walk_zip (xs := xs) (ys := ys) (n := xs.length) (by omega)) (Cw H1 (fun _ => true) v Dl) ⟨hD, Ex.new hD, upd_same⟩ (fun i H' _ p => ⟨ex_l ((e.trans e1).trans p.2.1) ha, ex_l ((e.trans e1).trans p.2.1) hb⟩)
      (fun i z H' H'' hi p ⟨T, x, y, hz', hT, hH, hx, hy⟩ => by
        subst hz'; subst hH
        have eT : Ex H' (upd H' T (.tup [x, y])) := Ex.new hT
        refine ⟨T, [x, y], rfl, st_of upd_same, rfl, x, [y], rfl, y, [], rfl, rfl, hw x y, ?_⟩
        exact cw_turn (f := fun _ => true) ⟨p.1, p.2.1.trans eT, eT _ _ p.2.2⟩ (by omega) (fun G1 g1 Q' q' => q' G1 (Ex.refl _)) fun _ => he i x y H1 (e.trans e1) hx hy)
      (fun H' p => q Dl H' (fresh_back e1 p.1) (e1.trans p.2.1) p.2.2)⟩
theorem given_all (n : Nat) (w : Nat → Int) : given n (fun _ => true) (fun j => .int (w j)) = ((List.range n).map w).map V.int := by
  unfold given
  rw [filt_all, List.map_map]
  rfl
/-- rows of our own list: each may stand anywhere, but not in the list's place -/
def RA (H0 H : Hp) (p : Addr) (M : List (List Int)) : Prop := H0 p = none ∧ ∃ as : List Addr, H p = some (.lst (as.map V.ref)) ∧ p ∉ as ∧ Paired (fun x r => H x = some (.lst (r.map V.int))) as M
theorem RA.mono {H' : Hp} {M : List (List Int)} (e : Ex H H') (h : RA H0 H p M) : RA H0 H' p M := by
  obtain ⟨h0, as, h1, h2, h3⟩ := h
  exact ⟨h0, as, e _ _ h1, h2, paired_mono h3 fun x r z => e _ _ z⟩
theorem RA.lli {M : List (List Int)} (h : RA H0 H p M) : LLI K H p M := by
  obtain ⟨h0, as, h1, h2, h3⟩ := h
  exact ⟨as, sq_of h1, paired_mono h3 fun x r z => sq_of z⟩
theorem OLLI.ra {M : List (List Int)} (h : OLLI H0 H p M) : RA H0 H p M := by
  obtain ⟨as, h1, h2, h3, h4⟩ := h
  rw [List.nodup_cons] at h3
  exact ⟨h1, as, h2, h3.1, paired_mono h4 fun x r z => z.2⟩
theorem paired_put {α β : Type} {F : α → β → Prop} : ∀ {l₁ : List α} {l₂ : List β} {i : Nat} {x : α} {y : β}, Paired F l₁ l₂ → F x y → Paired F (l₁.set i x) (l₂.set i y)
  | _, _, _, _, _, .nil, _ => .nil
  | _, _, 0, _, _, .cons _ t, h => .cons h t
  | _, _, i + 1, _, _, .cons r t, h => .cons r (paired_put t h)
/-- p[i] = a list of ints -/
theorem RA.put {M : List (List Int)} {i : Nat} (h : RA H0 H p M) : ∃ vs : List V, H p = some (.lst vs) ∧ vs.length = M.length ∧ ∀ H1 r row, Ex H H1 → H1 r = some (.lst (row.map V.int)) → r ≠ p → RA H0 (upd H1 p (.lst (vs.set i (.ref r)))) p (M.set i row) := by
  obtain ⟨h0, as, h1, h2, h3⟩ := h
  refine ⟨as.map V.ref, h1, by rw [List.length_map, h3.length], fun H1 r row e hr hne => ⟨h0, as.set i r, by rw [upd_same, List.map_set], ?_, ?_⟩⟩
  · intro hm
    rcases List.mem_or_eq_of_mem_set hm with hm | hm
    · exact h2 hm
    · exact hne hm.symm
  · have h4 : Paired (fun x r => H1 x = some (.lst (r.map V.int))) (as.set i r) (M.set i row) := paired_put (paired_mono h3 fun x r z => e _ _ z) hr
    refine paired_mem_mono h4 fun x r' hx z => ?_
    rw [upd_ne]
    · exact z
    · intro hxp
      subst hxp
      rcases List.mem_or_eq_of_mem_set hx with hm | hm
      · exact h2 hm
      · exact hne hm.symm
theorem s_setRow {M : List (List Int)} {i : Nat} {row : List Int} (h : RA H0 H p M) (he : EvL te σ H (row.map V.int)) (ho : Ev ta σ H (.ref p)) (hi : Ev tb σ H (.int (i : Int))) (hin : i < M.length) (e0 : Ex H0 H)
    (k : ∀ H1, Ex H0 H1 → RA H0 H1 p (M.set i row) → D.nx σ H1) : tAsg te (gSub ta tb rSetL) D σ H := by
  obtain ⟨vs, h1, h2, h3⟩ := h.put (i := i)
  refine he H (Ex.refl H) _ fun r H1 hr e1 hr1 => ho H1 e1 _ fun H2 e2 => hi H2 (e1.trans e2) _ fun H3 e3 => ?_
  have hne : r ≠ p := fun z => by
    subst z
    rw [h1] at hr
    cases hr
  exact ⟨p, vs, (i : Int), i, rfl, rfl, ((e1.trans e2).trans e3) p _ h1, ixN_nat (by omega), k _ (Ex.mut (((e0.trans e1).trans e2).trans e3) h.1) (h3 _ _ _ ((e1.trans e2).trans e3) ((e2.trans e3) _ _ hr1) hne)⟩
/-- p[i] = r, a row that stands -/
theorem q_setRef {M : List (List Int)} {i : Nat} {r : Addr} {row : List Int} (h : RA H0 H p M) (he : Ev te σ H (.ref r)) (hr : H r = some (.lst (row.map V.int))) (hne : r ≠ p) (ho : Ev ta σ H (.ref p)) (hi : Ev tb σ H (.int (i : Int))) (hin : i < M.length) (e0 : Ex H0 H)
    (k : ∀ H1, Ex H0 H1 → RA H0 H1 p (M.set i row) → (∀ (x : Addr) o, x ≠ p → H x = some o → H1 x = some o) → tz D σ H1) : tSeq (tAsg te (gSub ta tb rSetL)) tz D σ H := by
  obtain ⟨vs, h1, h2, h3⟩ := h.put (i := i)
  refine he H (Ex.refl H) _ fun H1 e1 => ho H1 e1 _ fun H2 e2 => hi H2 (e1.trans e2) _ fun H3 e3 => ?_
  exact ⟨p, vs, (i : Int), i, rfl, rfl, ((e1.trans e2).trans e3) p _ h1, ixN_nat (by omega), k _ (Ex.mut (((e0.trans e1).trans e2).trans e3) h.1) (h3 _ _ _ ((e1.trans e2).trans e3) (((e1.trans e2).trans e3) _ _ hr) hne) fun x o hx hH => by
    rw [upd_ne hx]
    exact ((e1.trans e2).trans e3) _ _ hH⟩
end
end AT

/-! ## the text of this law -/
namespace AT
open PySem PySem.Spec PyProof.Rows L2 Evl
def topS (i : Nat) : Stmt := PySem.Challenge.pw_arrowturns_k08_whole_no_turn_changes_the.main.body.getD i (.Pass ⟨0, 0, 0, 0⟩)
abbrev s_is_form : Stmt := topS 8
abbrev N_is_form : List Str := ["form", "count", "i", "j", "row"]
theorem sc_is_form : FnScope N_is_form ["form"] (defScope s_is_form) := ⟨rfl, rfl, rfl, by decide +kernel, rfl, by decide +kernel, by decide +kernel⟩
abbrev s_must_form : Stmt := topS 9
abbrev N_must_form : List Str := ["form"]
theorem sc_must_form : FnScope N_must_form ["form"] (defScope s_must_form) := ⟨rfl, rfl, rfl, by decide +kernel, rfl, by decide +kernel, by decide +kernel⟩
abbrev s_through : Stmt := topS 10
abbrev N_through : List Str := ["one", "other"]
theorem sc_through : FnScope N_through ["one", "other"] (defScope s_through) := ⟨rfl, rfl, rfl, by decide +kernel, rfl, by decide +kernel, by decide +kernel⟩
abbrev s_turned_by : Stmt := topS 11
abbrev N_turned_by : List Str := ["form", "box", "found", "i", "row", "j"]
theorem sc_turned_by : FnScope N_turned_by ["form", "box"] (defScope s_turned_by) := ⟨rfl, rfl, rfl, by decide +kernel, rfl, by decide +kernel, by decide +kernel⟩
abbrev s_turned : Stmt := topS 12
abbrev N_turned : List Str := ["form", "box"]
theorem sc_turned : FnScope N_turned ["form", "box"] (defScope s_turned) := ⟨rfl, rfl, rfl, by decide +kernel, rfl, by decide +kernel, by decide +kernel⟩
abbrev s_renamed_by : Stmt := topS 13
abbrev N_renamed_by : List Str := ["form", "names", "count", "place", "k", "i", "j"]
theorem sc_renamed_by : FnScope N_renamed_by ["form", "names"] (defScope s_renamed_by) := ⟨rfl, rfl, rfl, by decide +kernel, rfl, by decide +kernel, by decide +kernel⟩
abbrev s_renamed : Stmt := topS 14
abbrev N_renamed : List Str := ["form", "names"]
theorem sc_renamed : FnScope N_renamed ["form", "names"] (defScope s_renamed) := ⟨rfl, rfl, rfl, by decide +kernel, rfl, by decide +kernel, by decide +kernel⟩
abbrev s_determinant : Stmt := topS 16
abbrev N_determinant : List Str := ["form", "rows", "sign", "ahead", "k", "at", "first", "i", "scale", "row", "one", "other"]
theorem sc_determinant : FnScope N_determinant ["form"] (defScope s_determinant) := ⟨rfl, rfl, rfl, by decide +kernel, rfl, by decide +kernel, by decide +kernel⟩
abbrev s_step_of : Stmt := topS 17
abbrev N_step_of : List Str := ["row", "found", "number", "other", "rest"]
theorem sc_step_of : FnScope N_step_of ["row"] (defScope s_step_of) := ⟨rfl, rfl, rfl, by decide +kernel, rfl, by decide +kernel, by decide +kernel⟩
abbrev s_kept : Stmt := topS 18
abbrev N_kept : List Str := ["form", "row"]
theorem sc_kept : FnScope N_kept ["form"] (defScope s_kept) := ⟨rfl, rfl, rfl, by decide +kernel, rfl, by decide +kernel, by decide +kernel⟩
abbrev s__law_cell : Stmt := topS 20
abbrev N__law_cell : List Str := ["script", "k", "base"]
theorem sc__law_cell : FnScope N__law_cell ["script", "k"] (defScope s__law_cell) := ⟨rfl, rfl, rfl, by decide +kernel, rfl, by decide +kernel, by decide +kernel⟩
abbrev s__law_form : Stmt := topS 21
abbrev N__law_form : List Str := ["script", "k", "most", "count", "mode", "form", "at", "i", "j", "cell", "number"]
theorem sc__law_form : FnScope N__law_form ["script", "k", "most"] (defScope s__law_form) := ⟨rfl, rfl, rfl, by decide +kernel, rfl, by decide +kernel, by decide +kernel⟩
abbrev s__law_copy : Stmt := topS 22
abbrev N__law_copy : List Str := ["form", "numbers"]
theorem sc__law_copy : FnScope N__law_copy ["form"] (defScope s__law_copy) := ⟨rfl, rfl, rfl, by decide +kernel, rfl, by decide +kernel, by decide +kernel⟩
abbrev s__law_some_names : Stmt := topS 26
abbrev N__law_some_names : List Str := ["script", "k", "count", "left", "names", "j"]
theorem sc__law_some_names : FnScope N__law_some_names ["script", "k", "count"] (defScope s__law_some_names) := ⟨rfl, rfl, rfl, by decide +kernel, rfl, by decide +kernel, by decide +kernel⟩
abbrev s_law : Stmt := topS 27
abbrev N_law : List Str := ["script", "form", "total", "steps", "names", "other", "moved", "k", "name", "numbers"]
theorem sc_law : FnScope N_law ["script"] (defScope s_law) := ⟨rfl, rfl, rfl, by decide +kernel, rfl, by decide +kernel, by decide +kernel⟩
/-- what the top has left: the defs, the constants, the classes, the built-in names -/
structure Txt (K : Frag) (mg : Str → Option Value) where
  f_is_form : Addr
  d_is_form : FuncData
  F_is_form : Fun K "is_form" "is_form" s_is_form f_is_form d_is_form
  m_is_form : mg "is_form" = some (.ref f_is_form)
  b_is_form : Binds K d_is_form ["form"] []
  f_must_form : Addr
  d_must_form : FuncData
  F_must_form : Fun K "must_form" "must_form" s_must_form f_must_form d_must_form
  m_must_form : mg "must_form" = some (.ref f_must_form)
  b_must_form : Binds K d_must_form ["form"] []
  f_through : Addr
  d_through : FuncData
  F_through : Fun K "through" "through" s_through f_through d_through
  m_through : mg "through" = some (.ref f_through)
  b_through : Binds K d_through ["one", "other"] []
  f_turned_by : Addr
  d_turned_by : FuncData
  F_turned_by : Fun K "turned_by" "turned_by" s_turned_by f_turned_by d_turned_by
  m_turned_by : mg "turned_by" = some (.ref f_turned_by)
  b_turned_by : Binds K d_turned_by ["form", "box"] []
  f_turned : Addr
  d_turned : FuncData
  F_turned : Fun K "turned" "turned" s_turned f_turned d_turned
  m_turned : mg "turned" = some (.ref f_turned)
  b_turned : Binds K d_turned ["form", "box"] []
  f_renamed_by : Addr
  d_renamed_by : FuncData
  F_renamed_by : Fun K "renamed_by" "renamed_by" s_renamed_by f_renamed_by d_renamed_by
  m_renamed_by : mg "renamed_by" = some (.ref f_renamed_by)
  b_renamed_by : Binds K d_renamed_by ["form", "names"] []
  f_renamed : Addr
  d_renamed : FuncData
  F_renamed : Fun K "renamed" "renamed" s_renamed f_renamed d_renamed
  m_renamed : mg "renamed" = some (.ref f_renamed)
  b_renamed : Binds K d_renamed ["form", "names"] []
  f_determinant : Addr
  d_determinant : FuncData
  F_determinant : Fun K "determinant" "determinant" s_determinant f_determinant d_determinant
  m_determinant : mg "determinant" = some (.ref f_determinant)
  b_determinant : Binds K d_determinant ["form"] []
  f_step_of : Addr
  d_step_of : FuncData
  F_step_of : Fun K "step_of" "step_of" s_step_of f_step_of d_step_of
  m_step_of : mg "step_of" = some (.ref f_step_of)
  b_step_of : Binds K d_step_of ["row"] []
  f_kept : Addr
  d_kept : FuncData
  F_kept : Fun K "kept" "kept" s_kept f_kept d_kept
  m_kept : mg "kept" = some (.ref f_kept)
  b_kept : Binds K d_kept ["form"] []
  f__law_cell : Addr
  d__law_cell : FuncData
  F__law_cell : Fun K "_law_cell" "_law_cell" s__law_cell f__law_cell d__law_cell
  m__law_cell : mg "_law_cell" = some (.ref f__law_cell)
  b__law_cell : Binds K d__law_cell ["script", "k"] []
  f__law_form : Addr
  d__law_form : FuncData
  F__law_form : Fun K "_law_form" "_law_form" s__law_form f__law_form d__law_form
  m__law_form : mg "_law_form" = some (.ref f__law_form)
  b__law_form : Binds K d__law_form ["script", "k", "most"] []
  f__law_copy : Addr
  d__law_copy : FuncData
  F__law_copy : Fun K "_law_copy" "_law_copy" s__law_copy f__law_copy d__law_copy
  m__law_copy : mg "_law_copy" = some (.ref f__law_copy)
  b__law_copy : Binds K d__law_copy ["form"] []
  f__law_some_names : Addr
  d__law_some_names : FuncData
  F__law_some_names : Fun K "_law_some_names" "_law_some_names" s__law_some_names f__law_some_names d__law_some_names
  m__law_some_names : mg "_law_some_names" = some (.ref f__law_some_names)
  b__law_some_names : Binds K d__law_some_names ["script", "k", "count"] []
  f_law : Addr
  d_law : FuncData
  F_law : Fun K "law" "law" s_law f_law d_law
  m_law : mg "law" = some (.ref f_law)
  b_law : Binds K d_law ["script"] []
  t_MOST_BOXES : Tok
  m_MOST_BOXES : mg "MOST_BOXES" = some (.int 6 t_MOST_BOXES)
  t_MOST_ARROWS : Tok
  m_MOST_ARROWS : mg "MOST_ARROWS" = some (.int 99 t_MOST_ARROWS)
  c_TurnError : Addr
  x_TurnError : ExcF K mg "TurnError" c_TurnError
  g_TurnError : mg "TurnError" = some (.ref c_TurnError)
  c_NoForm : Addr
  x_NoForm : ExcF K mg "NoForm" c_NoForm
  g_NoForm : mg "NoForm" = some (.ref c_NoForm)
  c_NoBox : Addr
  x_NoBox : ExcF K mg "NoBox" c_NoBox
  g_NoBox : mg "NoBox" = some (.ref c_NoBox)
  c_NoNames : Addr
  x_NoNames : ExcF K mg "NoNames" c_NoNames
  g_NoNames : mg "NoNames" = some (.ref c_NoNames)
  u_TurnError_TurnError : PySem.W.subIn K (.ref c_TurnError) (.ref c_TurnError) = some true
  u_TurnError_NoForm : PySem.W.subIn K (.ref c_TurnError) (.ref c_NoForm) = some false
  u_TurnError_NoBox : PySem.W.subIn K (.ref c_TurnError) (.ref c_NoBox) = some false
  u_TurnError_NoNames : PySem.W.subIn K (.ref c_TurnError) (.ref c_NoNames) = some false
  u_NoForm_TurnError : PySem.W.subIn K (.ref c_NoForm) (.ref c_TurnError) = some true
  u_NoForm_NoForm : PySem.W.subIn K (.ref c_NoForm) (.ref c_NoForm) = some true
  u_NoForm_NoBox : PySem.W.subIn K (.ref c_NoForm) (.ref c_NoBox) = some false
  u_NoForm_NoNames : PySem.W.subIn K (.ref c_NoForm) (.ref c_NoNames) = some false
  u_NoBox_TurnError : PySem.W.subIn K (.ref c_NoBox) (.ref c_TurnError) = some true
  u_NoBox_NoForm : PySem.W.subIn K (.ref c_NoBox) (.ref c_NoForm) = some false
  u_NoBox_NoBox : PySem.W.subIn K (.ref c_NoBox) (.ref c_NoBox) = some true
  u_NoBox_NoNames : PySem.W.subIn K (.ref c_NoBox) (.ref c_NoNames) = some false
  u_NoNames_TurnError : PySem.W.subIn K (.ref c_NoNames) (.ref c_TurnError) = some true
  u_NoNames_NoForm : PySem.W.subIn K (.ref c_NoNames) (.ref c_NoForm) = some false
  u_NoNames_NoBox : PySem.W.subIn K (.ref c_NoNames) (.ref c_NoBox) = some false
  u_NoNames_NoNames : PySem.W.subIn K (.ref c_NoNames) (.ref c_NoNames) = some true
  b_len : mg "len" = none
  b_range : mg "range" = none
  b_abs : mg "abs" = none
  b_sorted : mg "sorted" = none
  b_list : mg "list" = none
  b_zip : mg "zip" = none
  b_max : mg "max" = none
end AT

namespace AT
open PySem PySem.Spec PyProof.Rows L2 Evl
/-! ### is_form -/
def cl (M : List (List Int)) (i j : Nat) : Int := (M.getD i []).getD j 0
/-- rows that are a form of n boxes with the numbers f -/
def FormOf (n : Nat) (f : Nat → Nat → Int) : Prop := 1 ≤ n ∧ n ≤ 6 ∧ ∀ i j, i < n → j < n → f i j = 0 - f j i ∧ -99 ≤ f i j ∧ f i j ≤ 99
def IsForm (M : List (List Int)) : Prop := ∃ n f, M = Fm n f ∧ FormOf n f
theorem list_eq_range {α : Type} (d : α) (l : List α) : l = (List.range l.length).map fun i => l.getD i d := by
  apply List.ext_getElem
  · simp
  · intro i h1 h2
    simp [List.getD_eq_getElem?_getD, h1]
theorem fm_of {M : List (List Int)} (h : ∀ r, r ∈ M → r.length = M.length) : M = Fm M.length (cl M) := by
  unfold Fm
  refine (list_eq_range [] M).trans (mapr_ext fun i hi => ?_)
  have hm : M.getD i [] ∈ M := by
    rw [List.getD_eq_getElem?_getD, List.getElem?_eq_getElem hi]
    exact List.getElem_mem hi
  have e := list_eq_range 0 (M.getD i [])
  rw [h _ hm] at e
  exact e
theorem isForm_rows {M : List (List Int)} (h : IsForm M) : 1 ≤ M.length ∧ M.length ≤ 6 ∧ (∀ r, r ∈ M → r.length = M.length) := by
  obtain ⟨n, f, rfl, h1, h2, _⟩ := h
  rw [fm_len]
  refine ⟨h1, h2, fun r hr => ?_⟩
  obtain ⟨i, _, rfl⟩ := List.mem_map.mp hr
  simp
theorem isForm_iff {M : List (List Int)} (h1 : 1 ≤ M.length) (h2 : M.length ≤ 6) (h : ∀ r, r ∈ M → r.length = M.length) :
    IsForm M ↔ ∀ i j, i < M.length → j < M.length → cl M i j = 0 - cl M j i ∧ -99 ≤ cl M i j ∧ cl M i j ≤ 99 := by
  constructor
  · rintro ⟨n, f, e, _, _, q⟩ i j hi hj
    have e2 := (fm_of h).symm.trans e
    obtain ⟨e3, e4⟩ := fm_inj e2
    rw [e4 i j hi hj, e4 j i hj hi]
    exact q i j (by omega) (by omega)
  · intro q
    exact ⟨M.length, cl M, fm_of h, h1, h2, q⟩
def sp_is_form (K : Frag) : Sp := fun vs H Q _ => ∃ a M, vs = [.ref a] ∧ LLI K H a M ∧ M.length ≤ 1000 ∧ (∀ r, r ∈ M → r.length ≤ 1000) ∧ ∀ b H', Ex H H' → (b = true ↔ IsForm M) → Q (.bl b) H'
section
variable {P : Program} {w : World} {K : Frag} {mg : Str → Option Value} {base : Heap} {k : Nat}
theorem given_pos {n : Nat} {f : Nat → Bool} {v : Nat → V} : (0 < ((given n f v).length : Int)) ↔ ∃ i, i < n ∧ f i = true := by
  unfold given
  rw [List.length_map]
  constructor
  · intro h
    have h2 : 0 < ((List.range n).filter f).length := by omega
    obtain ⟨x, hx⟩ := List.exists_mem_of_length_pos h2
    obtain ⟨a, b⟩ := List.mem_filter.mp hx
    exact ⟨x, List.mem_range.mp a, b⟩
  · rintro ⟨i, hi, hf⟩
    have : i ∈ (List.range n).filter f := List.mem_filter.mpr ⟨List.mem_range.mpr hi, hf⟩
    have := List.length_pos_of_mem this
    omega
theorem ok_is_form (T : Txt K mg) : FnOk P w K mg base CX0 (k + 1) T.f_is_form T.d_is_form ["form"] (sp_is_form K) := by
  refine T.F_is_form.ok sc_is_form (fun vs H Q E h => ?_) (fun cdv A outer s H vs Q E hr h => ?_)
  · obtain ⟨a, M, rfl, _⟩ := h
    rfl
  · obtain ⟨a, M, rfl, hM, hl, hrl, q⟩ := h
    refine ⟨_, (pss_cons (ps_set (i := 1) sc_is_form.nd rfl (.inr rfl) (pe_callB (lenK K) rfl T.b_len PySem.boot_len (pa_cons (pv 0) pa_nil)))
      (pss_cons (ps_if (PW.pt (pw_or (pt_cmpR op_lt (pv 1) pe_int (nomark _)) (pw_or (pt_cmpR op_gt (pv 1) (pe_glob (v := .int 6) rfl T.m_MOST_BOXES ⟨_, rfl⟩) (nomark _)) (pw_or1 (pt_cmpR op_gt (pe_callB (lenK K) rfl T.b_len PySem.boot_len (pa_cons (pe_lc (own := [("row", 4)]) rfl sc_is_form.nd (pi_listK K (pv 0)) (blkOk_by (own := [("row", 4)]) (N := N_is_form) (sc := defScope s_is_form) (by decide +kernel)) (fun _ _ _ _ _ => (pg_name (i := 4) sc_is_form.nd rfl (.inl rfl))) (fun _ _ _ _ _ => (pts_one (pt_cmpR op_ne (pe_callB (lenK K) rfl T.b_len PySem.boot_len (pa_cons (pv 4) pa_nil)) (pv 1) (nomark _)))) (fun _ _ _ _ _ => (pv 4))) pa_nil)) pe_int (nomark _))))))
        (pss_one (ps_ret pe_bl))
        pss_nil)
      (pss_cons (ps_for PassesOwn.never rfl (pi_range1 rfl T.b_range (pa_cons (pv 1) pa_nil)) (pg_name (i := 2) sc_is_form.nd rfl (.inl rfl))
        (pss_one (ps_for PassesOwn.never rfl (pi_range1 rfl T.b_range (pa_cons (pv 1) pa_nil)) (pg_name (i := 3) sc_is_form.nd rfl (.inl rfl))
        (pss_one (ps_if (PW.pt (pw_or (pt_cmpR op_ne (pe_ix (ixL K) (pe_ix (ixL K) (pv 0) (pv 2) (fun _ _ => rfl)) (pv 3) (fun _ _ => rfl)) (pe_op op_sub pe_int (pe_ix (ixL K) (pe_ix (ixL K) (pv 0) (pv 3) (fun _ _ => rfl)) (pv 2) (fun _ _ => rfl))) (nomark _)) (pw_or1 (pt_cmpR op_gt (pe_callB absK rfl T.b_abs (by decide +kernel) (pa_cons (pe_ix (ixL K) (pe_ix (ixL K) (pv 0) (pv 2) (fun _ _ => rfl)) (pv 3) (fun _ _ => rfl)) pa_nil)) (pe_glob (v := .int 99) rfl T.m_MOST_ARROWS ⟨_, rfl⟩) (nomark _)))))
        (pss_one (ps_ret pe_bl))
        pss_nil)))))
      (pss_one (ps_ret pe_bl))))), ?_⟩
    obtain ⟨as, hA, hP⟩ := id hM
    have hlen := hP.length
    refine q_asg (ev_lenLLI (ev_var rfl) hM) fun H1 e1 => ?_
    -- the first test
    have hcomp : ∃ rows : Nat → Bool, (∀ i r, M[i]? = some r → rows i = decide (r.length ≠ M.length)) := ⟨fun i => decide ((M.getD i []).length ≠ M.length), fun i r h => by show decide ((M.getD i []).length ≠ M.length) = _; rw [List.getD_eq_getElem?_getD, h]; rfl⟩
    obtain ⟨rows, hrows⟩ := hcomp
    refine q_when (b := (decide ((M.length : Int) < 1)) || (decide ((6 : Int) < M.length) || decide (0 < ((given (as.map V.ref).length rows fun i => (as.map V.ref).getD i .non).length : Int)))) ?_ ?_ ?_
    · refine et_or (et_test (ev_op (ev_var rfl) ev_c rv_I0)) fun _ => et_or (et_test (ev_op (ev_var rfl) ev_c rv_I0)) fun _ => et_test (ev_op (ev_lenN ?_) ev_c rv_I0)
      refine el_lcL _ _ (ev_var rfl) (ex_l e1 hA) (by rw [List.length_map]; omega) (fun _ => rfl) (fun i x H2 e2 hx => ?_) (fun i x H2 e2 hx _ => ?_)
      · rw [List.getElem?_map] at hx
        cases hy : as[i]? with
        | none => rw [hy] at hx; cases hx
        | some y =>
          rw [hy] at hx
          cases hx
          obtain ⟨r, h1, h2⟩ := paired_getL hP hy
          rw [hrows i r h1]
          refine et_is (et_test (ev_op (ev_lenLI (ev_var rfl) (h2.mono (e1.trans e2))) (ev_var rfl) (rv_ne rfl))) ?_
          by_cases z : r.length = M.length
          · simp [z]
          · have : ¬ (V.int (r.length : Int) = V.int (M.length : Int)) := fun q => z (by injection q; omega)
            simp [z, this]
      · rw [List.getD_eq_getElem?_getD, hx]
        exact ev_var rfl
    · intro hb H2 e2
      refine s_ret ev_c fun H3 e3 => q false H3 ((e1.trans e2).trans e3) (bfF fun z => ?_)
      obtain ⟨z1, z2, z3⟩ := isForm_rows z
      simp only [Bool.or_eq_true, decide_eq_true_eq, given_pos] at hb
      rcases hb with hb | hb | ⟨i, hi, hb⟩
      · omega
      · omega
      · rw [List.length_map, hlen] at hi
        have := hrows i M[i] (List.getElem?_eq_getElem hi)
        rw [hb, z3 _ (List.getElem_mem hi)] at this
        simp at this
    · intro hb H2 e2
      simp only [Bool.or_eq_false_iff, decide_eq_false_iff_not, given_pos] at hb
      obtain ⟨hb1, hb2, hb3⟩ := hb
      have hn1 : 1 ≤ M.length := by omega
      have hn2 : M.length ≤ 6 := by omega
      have hrow : ∀ r, r ∈ M → r.length = M.length := fun r hr => by
        obtain ⟨i, hi, e⟩ := List.mem_iff_getElem.mp hr
        by_cases z : r.length = M.length
        · exact z
        · refine (hb3 ⟨i, by rw [List.length_map, hlen]; exact hi, ?_⟩).elim
          rw [hrows i r (by rw [List.getElem?_eq_getElem hi, e])]
          exact decide_eq_true z
      have hfm := fm_of hrow
      have hiff := isForm_iff hn1 hn2 hrow
      generalize hn : M.length = n at *
      rw [hfm] at hM
      refine q_forR1 (n := (n : Int)) (ea_cons (ev_var rfl) ea_nil) (by omega) (fun i σ' H' => ∃ x2 x3 x4, σ' = [some (.ref a), some (.int (n : Int)), x2, x3, x4] ∧ Ex H H' ∧ ∀ i' j, i' < i → j < n → cl M i' j = 0 - cl M j i' ∧ -99 ≤ cl M i' j ∧ cl M i' j ≤ 99) (fun H3 e3 => ⟨none, none, none, rfl, (e1.trans e2).trans e3, fun i' j h => absurd h (Nat.not_lt_zero _)⟩) (fun i σ' H' hi hp => ?_) (fun σ' H' hp => ?_)
      · obtain ⟨x2, x3, x4, rfl, eH, hc⟩ := hp
        have hi' : i < n := by omega
        refine s_forR1 (n := (n : Int)) (ea_cons (ev_var rfl) ea_nil) (by omega) (fun j σ' H' => ∃ x3 x4, σ' = [some (.ref a), some (.int (n : Int)), some (.int (i : Int)), x3, x4] ∧ Ex H H' ∧ ∀ j', j' < j → cl M i j' = 0 - cl M j' i ∧ -99 ≤ cl M i j' ∧ cl M i j' ≤ 99) (fun H3 e3 => ⟨_, _, rfl, eH.trans e3, fun j' h => absurd h (Nat.not_lt_zero _)⟩) (fun j σ' H' hj hp => ?_) (fun σ' H' hp => ?_)
        · obtain ⟨y3, y4, rfl, eH', hc'⟩ := hp
          have hj' : j < n := by omega
          have hMj := hM.mono eH'
          refine s_when (et_or (et_test (ev_op (ev_fm (ev_var rfl) (ev_var rfl) (ev_var rfl) hMj hi' hj') (ev_op ev_c (ev_fm (ev_var rfl) (ev_var rfl) (ev_var rfl) hMj hj' hi') rv_I0) (rv_ne rfl))) fun _ => et_test (ev_op (ev_abs (ev_fm (ev_var rfl) (ev_var rfl) (ev_var rfl) hMj hi' hj')) ev_c rv_I0)) (fun hb H3 e3 => ?_) (fun hb H3 e3 => ?_)
          · refine s_ret ev_c fun H4 e4 => q false H4 ((eH'.trans e3).trans e4) (bfF fun z => ?_)
            have := (hiff.mp z) i j hi' hj'
            simp only [Bool.or_eq_true, decide_eq_true_eq, Bool.not_eq_true', decide_eq_false_iff_not] at hb
            rcases hb with hb | hb
            · exact absurd (by rw [this.1]) hb
            · split at hb <;> omega
          · refine ⟨_, _, rfl, eH'.trans e3, fun j' h => ?_⟩
            by_cases e : j' = j
            · subst e
              simp only [Bool.or_eq_false_iff, decide_eq_false_iff_not, Bool.not_eq_false', decide_eq_true_eq] at hb
              obtain ⟨h1, h2⟩ := hb
              have h1' : cl M i j' = 0 - cl M j' i := by injection h1
              refine ⟨h1', ?_⟩
              split at h2 <;> omega
            · exact hc' j' (by omega)
        · obtain ⟨y3, y4, rfl, eH', hc'⟩ := hp
          refine ⟨_, _, _, rfl, eH', fun i' j h hj => ?_⟩
          by_cases e : i' = i
          · subst e
            exact hc' j (by omega)
          · exact hc i' j (by omega) hj
      · obtain ⟨x2, x3, x4, rfl, eH, hc⟩ := hp
        refine s_ret ev_c fun H3 e3 => q true H3 (eH.trans e3) (bfT (hiff.mpr fun i j hi hj => hc i j (by omega) hj))
end
end AT

namespace AT
open PySem PySem.Spec PyProof.Rows L2 Evl
/-! ### must_form, through, turned_by, turned -/
def thr (a b : Int) : Int := if 0 < a ∧ 0 < b then a * b else if a < 0 ∧ b < 0 then 0 - a * b else 0
def turnF (f : Nat → Nat → Int) (k : Nat) : Nat → Nat → Int := fun i j => if i = k ∨ j = k then 0 - f i j else f i j + thr (f i k) (f k j)
/-- numbers of less than B bits -/
def Bits (B n : Nat) (f : Nat → Nat → Int) : Prop := 0 < B ∧ B + B ≤ 900000 ∧ ∀ i j, i < n → j < n → (f i j).natAbs < 2 ^ B
theorem FormOf.bits {n : Nat} {f : Nat → Nat → Int} (h : FormOf n f) : Bits 7 n f := ⟨by decide, by decide, fun i j hi hj => by
  have := (h.2.2 i j hi hj).2
  show _ < 128
  omega⟩
def SmallM (M : List (List Int)) : Prop := M.length ≤ 1000 ∧ ∀ r, r ∈ M → r.length ≤ 1000
theorem small_fm {n : Nat} {f : Nat → Nat → Int} (h : n ≤ 1000) : SmallM (Fm n f) := ⟨by rw [fm_len]; exact h, fun r hr => by
  obtain ⟨i, _, rfl⟩ := List.mem_map.mp hr
  simpa using h⟩
def sp_must_form (K : Frag) (C : Addr) : Sp := fun vs H Q E => ∃ a M, vs = [.ref a] ∧ LLI K H a M ∧ SmallM M ∧ ∀ H', Ex H H' → (IsForm M → Q .non H') ∧ (¬ IsForm M → E (.ref C) none H')
def sp_through : Sp := fun vs H Q _ => ∃ a b, vs = [.int a, .int b] ∧ CMulW a b ∧ ∀ H', Ex H H' → Q (.int (thr a b)) H'
def sp_turned_by (K : Frag) : Sp := fun vs H Q _ => ∃ a n f k B, vs = [.ref a, .int ((k : Nat) : Int)] ∧ LLI K H a (Fm n f) ∧ n ≤ 100 ∧ k < n ∧ Bits B n f ∧ ∀ H' p, Ex H H' → OLLI H H' p (Fm n (turnF f k)) → Q (.ref p) H'
def sp_turned (K : Frag) (CF CB : Addr) : Sp := fun vs H Q E => ∃ a M box, vs = [.ref a, .int box] ∧ LLI K H a M ∧ SmallM M ∧ (¬ IsForm M → ∀ H', Ex H H' → E (.ref CF) none H') ∧
  (∀ n f, M = Fm n f → FormOf n f → (∀ k : Nat, box = k → k < n → ∀ H' p, Ex H H' → OLLI H H' p (Fm n (turnF f k)) → Q (.ref p) H') ∧ ((box < 0 ∨ (n : Int) ≤ box) → ∀ H', Ex H H' → E (.ref CB) none H'))
section
variable {P : Program} {w : World} {K : Frag} {mg : Str → Option Value} {base : Heap} {k : Nat}
theorem ok_must_form (T : Txt K mg) (G_is_form : FnOk P w K mg base CX0 k T.f_is_form T.d_is_form ["form"] (sp_is_form K)) : FnOk P w K mg base (L2.CX P w) (k + 1) T.f_must_form T.d_must_form ["form"] (sp_must_form K T.c_NoForm) := by
  refine T.F_must_form.okX sc_must_form (fun vs H Q E h => ?_) (fun cdv A outer s H vs Q E hr h => ?_)
  · obtain ⟨a, M, rfl, _⟩ := h
    rfl
  · obtain ⟨a, M, rfl, hM, hs, q⟩ := h
    refine ⟨_, (pss_one (ps_if (pt_not (pt_val (pe_call G_is_form hr rfl T.m_is_form T.F_is_form.kp T.b_is_form .nil pass0 (pa_cons (pv 0) pa_nil))))
        (pss_one (ps_raise rfl (takes_of rfl rfl rfl rfl) (pmk_own PySem.F.excBase_ValueError T.x_NoForm.xn T.x_NoForm.g T.x_NoForm.kp (raises_own T.x_NoForm.bs T.x_NoForm.ty) rfl)))
        pss_nil)), ?_⟩
    refine ⟨.ref a, rfl, a, M, rfl, hM, hs.1, hs.2, fun b H1 e1 hb => ?_⟩
    refine ⟨b, rfl, ?_⟩
    cases b with
    | true => exact (q H1 e1).1 (hb.mp rfl)
    | false => exact (q H1 e1).2 fun z => Bool.false_ne_true (hb.mpr z)
theorem ok_through (T : Txt K mg) : FnOk P w K mg base CX0 (k + 1) T.f_through T.d_through ["one", "other"] sp_through := by
  refine T.F_through.ok sc_through (fun vs H Q E h => ?_) (fun cdv A outer s H vs Q E hr h => ?_)
  · obtain ⟨a, b, rfl, _⟩ := h
    rfl
  · obtain ⟨a, b, rfl, hm, q⟩ := h
    refine ⟨_, (pss_cons (ps_if (PW.pt (pw_and (pt_cmpR op_gt (pv 0) pe_int (nomark _)) (pw_and1 (pt_cmpR op_gt (pv 1) pe_int (nomark _)))))
        (pss_one (ps_ret (pe_op op_mulW (pv 0) (pv 1))))
        pss_nil)
      (pss_cons (ps_if (PW.pt (pw_and (pt_cmpR op_lt (pv 0) pe_int (nomark _)) (pw_and1 (pt_cmpR op_lt (pv 1) pe_int (nomark _)))))
        (pss_one (ps_ret (pe_op op_sub pe_int (pe_op op_mulW (pv 0) (pv 1)))))
        pss_nil)
      (pss_one (ps_ret pe_int)))), ?_⟩
    refine q_when (et_and (et_test (ev_op (ev_var rfl) ev_c rv_I0)) fun _ => et_test (ev_op (ev_var rfl) ev_c rv_I0)) (fun hb H1 e1 => s_ret (ev_op (ev_var rfl) (ev_var rfl) (rv_I hm)) fun H2 e2 => ?_) (fun hb H1 e1 => ?_)
    · simp only [Bool.and_eq_true, decide_eq_true_eq] at hb
      have := q H2 (e1.trans e2)
      unfold thr at this
      rw [if_pos hb] at this
      exact this
    · simp only [Bool.and_eq_false_iff, decide_eq_false_iff_not] at hb
      refine q_when (et_and (et_test (ev_op (ev_var rfl) ev_c rv_I0)) fun _ => et_test (ev_op (ev_var rfl) ev_c rv_I0)) (fun hc H2 e2 => s_ret (ev_op ev_c (ev_op (ev_var rfl) (ev_var rfl) (rv_I hm)) rv_I0) fun H3 e3 => ?_) (fun hc H2 e2 => s_ret ev_c fun H3 e3 => ?_)
      · simp only [Bool.and_eq_true, decide_eq_true_eq] at hc
        have := q H3 ((e1.trans e2).trans e3)
        unfold thr at this
        rw [if_neg (by omega), if_pos hc] at this
        exact this
      · simp only [Bool.and_eq_false_iff, decide_eq_false_iff_not] at hc
        have := q H3 ((e1.trans e2).trans e3)
        unfold thr at this
        rw [if_neg (by omega), if_neg (by omega)] at this
        exact this
theorem ok_turned_by (T : Txt K mg) (G_through : FnOk P w K mg base CX0 k T.f_through T.d_through ["one", "other"] sp_through) : FnOk P w K mg base CX0 (k + 1) T.f_turned_by T.d_turned_by ["form", "box"] (sp_turned_by K) := by
  refine T.F_turned_by.ok sc_turned_by (fun vs H Q E h => ?_) (fun cdv A outer s H vs Q E hr h => ?_)
  · obtain ⟨a, n, f, k, B, rfl, _⟩ := h
    rfl
  · obtain ⟨a, n, f, k, B, rfl, hM, hn, hk, hB, q⟩ := h
    refine ⟨_, (pss_cons (ps_set (i := 2) sc_turned_by.nd rfl (.inl rfl) (pe_lst pa_nil))
      (pss_cons (ps_for PassesOwn.never rfl (pi_range1 rfl T.b_range (pa_cons (pe_callB (lenK K) rfl T.b_len PySem.boot_len (pa_cons (pv 0) pa_nil)) pa_nil)) (pg_name (i := 3) sc_turned_by.nd rfl (.inl rfl))
        (pss_cons (ps_set (i := 4) sc_turned_by.nd rfl (.inl rfl) (pe_lst pa_nil))
      (pss_cons (ps_for PassesOwn.never rfl (pi_range1 rfl T.b_range (pa_cons (pe_callB (lenK K) rfl T.b_len PySem.boot_len (pa_cons (pv 0) pa_nil)) pa_nil)) (pg_name (i := 5) sc_turned_by.nd rfl (.inl rfl))
        (pss_one (ps_if (PW.pt (pw_or (pt_cmpR op_eq (pv 3) (pv 1) (nomark _)) (pw_or1 (pt_cmpR op_eq (pv 5) (pv 1) (nomark _)))))
        (pss_one (ps_expr (bmK K PySem.F.plainAttrs_list PySem.F.slot_list_append PySem.F.type_list_append mt_append (pv 4) (pa_cons (pe_op op_sub pe_int (pe_ix (ixL K) (pe_ix (ixL K) (pv 0) (pv 3) (fun _ _ => rfl)) (pv 5) (fun _ _ => rfl))) pa_nil))))
        (pss_one (ps_expr (bmK K PySem.F.plainAttrs_list PySem.F.slot_list_append PySem.F.type_list_append mt_append (pv 4) (pa_cons (pe_op op_add (pe_ix (ixL K) (pe_ix (ixL K) (pv 0) (pv 3) (fun _ _ => rfl)) (pv 5) (fun _ _ => rfl)) (pe_call G_through hr rfl T.m_through T.F_through.kp T.b_through .nil pass0 (pa_cons (pe_ix (ixL K) (pe_ix (ixL K) (pv 0) (pv 3) (fun _ _ => rfl)) (pv 1) (fun _ _ => rfl)) (pa_cons (pe_ix (ixL K) (pe_ix (ixL K) (pv 0) (pv 1) (fun _ _ => rfl)) (pv 5) (fun _ _ => rfl)) pa_nil)))) pa_nil)))))))
      (pss_one (ps_expr (bmK K PySem.F.plainAttrs_list PySem.F.slot_list_append PySem.F.type_list_append mt_append (pv 2) (pa_cons (pv 4) pa_nil)))))))
      (pss_one (ps_ret (pv 2))))), ?_⟩
    have hl : ∀ {σ : St} {H1 : Hp}, σ[0]? = some (some (V.ref a)) → Ex H H1 → EvA (tCons (tCB (rLenS K) (tCons (tVar 0) tNil)) tNil) σ H1 [.int (n : Int)] := fun e e1 => by
      have := ea_cons (ev_lenLLI (K := K) (ev_var e) (hM.mono e1)) ea_nil
      rw [fm_len] at this
      exact this
    refine q_asgL (xs := []) (el_lst ea_nil (by simp)) fun p H1 hp e1 hp1 => ?_
    refine q_forR1 (hl rfl e1) (by omega) (fun i σ' H' => ∃ x3 x4 x5, σ' = [some (.ref a), some (.int (k : Int)), some (.ref p), x3, x4, x5] ∧ Ex H H' ∧ OLLI H H' p ((List.range i).map fun i => (List.range n).map (turnF f k i)))
      (fun H2 e2 => ⟨_, _, _, rfl, e1.trans e2, .nil hp (e2 _ _ hp1)⟩) (fun i σ' H' hi hP => ?_) (fun σ' H' hP => ?_)
    · obtain ⟨x3, x4, x5, rfl, eH, hO⟩ := hP
      have hi' : i < n := by omega
      refine q_asgL (xs := []) (el_lst ea_nil (by simp)) fun r H2 hr e2 hr2 => ?_
      refine q_forR1 (hl rfl (eH.trans e2)) (by omega) (fun j σ' H'' => ∃ x5, σ' = [some (.ref a), some (.int (k : Int)), some (.ref p), some (.int (i : Int)), some (.ref r), x5] ∧ Ex H' H'' ∧ H'' r = some (.lst (((List.range j).map (turnF f k i)).map V.int)))
        (fun H3 e3 => ⟨_, rfl, e2.trans e3, e3 _ _ hr2⟩) (fun j σ' H'' hj hP => ?_) (fun σ' H'' hP => ?_)
      · obtain ⟨x5, rfl, eH', hrow⟩ := hP
        have hj' : j < n := by omega
        have hMj := hM.mono (eH.trans eH')
        have hrl : (((List.range j).map (turnF f k i)).map V.int).length < 100000 := by simp; omega
        have fin : ∀ {H1 : Hp}, Ex H'' H1 → (∃ x5, [some (V.ref a), some (.int (k : Int)), some (.ref p), some (.int (i : Int)), some (.ref r), some (.int (j : Int))] = [some (V.ref a), some (.int (k : Int)), some (.ref p), some (.int (i : Int)), some (.ref r), x5] ∧
            Ex H' (upd H1 r (.lst (((List.range j).map (turnF f k i)).map V.int ++ [.int (turnF f k i j)]))) ∧ (upd H1 r (.lst (((List.range j).map (turnF f k i)).map V.int ++ [.int (turnF f k i j)]))) r = some (.lst (((List.range (j + 1)).map (turnF f k i)).map V.int))) := fun e =>
          ⟨_, rfl, Ex.mut (eH'.trans e) hr, by rw [upd_same, List.range_succ, List.map_append, List.map_append]; rfl⟩
        refine s_if (et_or (et_test (ev_op (ev_var rfl) (ev_var rfl) (rv_eq rfl))) fun _ => et_test (ev_op (ev_var rfl) (ev_var rfl) (rv_eq rfl))) (fun hb H3 e3 => ?_) (fun hb H3 e3 => ?_)
        · have hM3 := hMj.mono e3
          refine s_app (e3 _ _ hrow) (ev_var rfl) (ev_op ev_c (ev_fm (ev_var rfl) (ev_var rfl) (ev_var rfl) hM3 hi' hj') rv_I0) hrl fun H4 e4 => ?_
          have e : turnF f k i j = 0 - f i j := by
            unfold turnF
            rw [if_pos]
            simp only [Bool.or_eq_true, decide_eq_true_eq] at hb
            rcases hb with hb | hb
            · left; injection hb; omega
            · right; injection hb; omega
          have := fin (e3.trans e4)
          rw [e] at this
          exact this
        · have hM3 := hMj.mono e3
          have h1 : ¬ (i = k ∨ j = k) := by
            simp only [Bool.or_eq_false_iff, decide_eq_false_iff_not] at hb
            rintro (z | z)
            · exact hb.1 (by rw [z])
            · exact hb.2 (by rw [z])
          have e : turnF f k i j = f i j + thr (f i k) (f k j) := by
            unfold turnF
            rw [if_neg h1]
          refine s_app (e3 _ _ hrow) (ev_var rfl) (ev_op (ev_fm (ev_var rfl) (ev_var rfl) (ev_var rfl) hM3 hi' hj') (ev_call (z := .int (thr (f i k) (f k j))) (ea_cons (ev_fm (ev_var rfl) (ev_var rfl) (ev_var rfl) hM3 hi' hk) (ea_cons (ev_fm (ev_var rfl) (ev_var rfl) (ev_var rfl) hM3 hk hj') ea_nil)) ?_) rv_I0) hrl fun H4 e4 => ?_
          · intro H4 e4 Q hQ E
            exact ⟨_, _, rfl, wide_mul (hB.2.2 i k hi' hk) (hB.2.2 k j hk hj') hB.1 hB.1 (by have := hB.2.1; omega), hQ⟩
          · have := fin (e3.trans e4)
            rw [e] at this
            exact this
      · obtain ⟨x5, rfl, eH', hrow⟩ := hP
        obtain ⟨vs, h1, h2, h3, h4⟩ := hO.push eH eH' hr hrow
        refine s_app h1 (ev_var rfl) (ev_var rfl) (by rw [h2]; simp; omega) fun H4 e4 => ?_
        obtain ⟨vs', h1', h2', h3', h4'⟩ := hO.push eH (eH'.trans e4) hr (e4 _ _ hrow)
        have : vs' = vs := by
          have z := h1'.symm.trans (e4 _ _ h1)
          injection z with z
          injection z
        subst this
        refine ⟨_, _, _, rfl, h4', ?_⟩
        rw [List.range_succ, List.map_append]
        exact h3'
    · obtain ⟨x3, x4, x5, rfl, eH, hO⟩ := hP
      exact s_ret (ev_var rfl) fun H2 e2 => q H2 p (eH.trans e2) (hO.mono e2)
theorem ok_turned (T : Txt K mg) (G_must_form : FnOk P w K mg base (L2.CX P w) k T.f_must_form T.d_must_form ["form"] (sp_must_form K T.c_NoForm)) (G_turned_by : FnOk P w K mg base CX0 k T.f_turned_by T.d_turned_by ["form", "box"] (sp_turned_by K)) :
    FnOk P w K mg base (L2.CX P w) (k + 1) T.f_turned T.d_turned ["form", "box"] (sp_turned K T.c_NoForm T.c_NoBox) := by
  refine T.F_turned.okX sc_turned (fun vs H Q E h => ?_) (fun cdv A outer s H vs Q E hr h => ?_)
  · obtain ⟨a, M, box, rfl, _⟩ := h
    rfl
  · obtain ⟨a, M, box, rfl, hM, hs, q1, q2⟩ := h
    refine ⟨_, (pss_cons (ps_expr (pe_call G_must_form hr rfl T.m_must_form T.F_must_form.kp T.b_must_form .nil (passes_call (takes_of rfl rfl rfl rfl) (fun _ _ _ _ h => h)) (pa_cons (pv 0) pa_nil)))
      (pss_cons (ps_if (PW.pt (pw_or (pt_cmpR op_lt (pv 1) pe_int (nomark _)) (pw_or1 (pt_cmpR op_ge (pv 1) (pe_callB (lenK K) rfl T.b_len PySem.boot_len (pa_cons (pv 0) pa_nil)) (nomark _)))))
        (pss_one (ps_raise rfl (takes_of rfl rfl rfl rfl) (pmk_own PySem.F.excBase_ValueError T.x_NoBox.xn T.x_NoBox.g T.x_NoBox.kp (raises_own T.x_NoBox.bs T.x_NoBox.ty) rfl)))
        pss_nil)
      (pss_one (ps_ret (pe_call G_turned_by hr rfl T.m_turned_by T.F_turned_by.kp T.b_turned_by .nil pass0 (pa_cons (pv 0) (pa_cons (pv 1) pa_nil))))))), ?_⟩
    refine ⟨.ref a, rfl, a, M, rfl, hM, hs, fun H1 e1 => ⟨fun hF => ?_, fun hF => q1 hF H1 e1⟩⟩
    obtain ⟨n, f, rfl, hf⟩ := hF
    obtain ⟨q3, q4⟩ := q2 n f rfl hf
    have hn := hf.2.1
    dsimp only
    refine q_when (et_or (et_test (ev_op (ev_var rfl) ev_c rv_I0)) fun _ => et_test (ev_op (ev_var rfl) (ev_lenFm (ev_var rfl) (hM.mono e1)) rv_I0)) (fun hb H2 e2 => ?_) (fun hb H2 e2 => ?_)
    · simp only [Bool.or_eq_true, decide_eq_true_eq] at hb
      exact q4 (by omega) H2 (e1.trans e2)
    · simp only [Bool.or_eq_false_iff, decide_eq_false_iff_not] at hb
      obtain ⟨k, rfl⟩ : ∃ k : Nat, box = k := ⟨box.toNat, by omega⟩
      refine ⟨.ref a, rfl, .int (k : Int), rfl, a, n, f, k, 7, rfl, hM.mono (e1.trans e2), by omega, by omega, hf.bits, fun H3 p e3 hO => ?_⟩
      exact q3 k rfl (by omega) H3 p ((e1.trans e2).trans e3) (hO.back (e1.trans e2))
end
end AT

namespace AT
open PySem PySem.Spec PyProof.Rows L2 Evl
/-! ### the law's own readers and makers -/
def cellV (ns : List Int) (k : Nat) : Int := if k < ns.length then ns.getD k 0 else ((ns.getD 0 0) % 65521 * 48271 + k * 30103) % 65521
def sp__law_cell (K : Frag) : Sp := fun vs H Q _ => ∃ (a : Addr) (ns : List Int) (k : Nat), vs = [.ref a, .int (k : Int)] ∧ LI K H a ns ∧ k ≤ 100000 ∧ ∀ H', Ex H H' → Q (.int (cellV ns k)) H'
def sp__law_form (K : Frag) : Sp := fun vs H Q _ => ∃ (a : Addr) (ns : List Int) (k most : Nat), vs = [.ref a, .int (k : Int), .int (most : Int)] ∧ LI K H a ns ∧ k ≤ 1000 ∧ 1 ≤ most ∧ most ≤ 6 ∧ ∀ n f H' p, Ex H H' → FormOf n f → n ≤ most → OLLI H H' p (Fm n f) → Q (.ref p) H'
def sp__law_copy (K : Frag) : Sp := fun vs H Q _ => ∃ a M, vs = [.ref a] ∧ LLI K H a M ∧ M.length ≤ 1000 ∧ ∀ H' p, Ex H H' → OLLI H H' p M → Q (.ref p) H'
def sp__law_like (K : Frag) : Sp := fun vs H Q _ => ∃ a b M N, vs = [.ref a, .ref b] ∧ TLL H a M ∧ LLI K H b N ∧ SmallM M ∧ ∀ H', Ex H H' → Q (.bl (decide (M = N))) H'
section
variable {P : Program} {w : World} {K : Frag} {mg : Str → Option Value} {base : Heap} {k : Nat}
theorem ok__law_cell (T : Txt K mg) : FnOk P w K mg base CX0 (k + 1) T.f__law_cell T.d__law_cell ["script", "k"] (sp__law_cell K) := by
  refine T.F__law_cell.ok sc__law_cell (fun vs H Q E h => ?_) (fun cdv A outer s H vs Q E hr h => ?_)
  · obtain ⟨a, ns, k, rfl, _⟩ := h
    rfl
  · obtain ⟨a, ns, k, rfl, hL, hk, q⟩ := h
    refine ⟨_, (pss_cons (ps_if (pt_cmpR op_lt (pv 1) (pe_callB (lenK K) rfl T.b_len PySem.boot_len (pa_cons (pv 0) pa_nil)) (nomark _))
        (pss_one (ps_ret (pe_ix (ixL K) (pv 0) (pv 1) (fun _ _ => rfl))))
        pss_nil)
      (pss_cons (ps_set (i := 2) sc__law_cell.nd rfl (.inl rfl) pe_int)
      (pss_cons (ps_if (pt_cmpR op_gt (pe_callB (lenK K) rfl T.b_len PySem.boot_len (pa_cons (pv 0) pa_nil)) pe_int (nomark _))
        (pss_one (ps_set (i := 2) sc__law_cell.nd rfl (.inl rfl) (pe_ix (ixL K) (pv 0) pe_int (fun _ _ => rfl))))
        pss_nil)
      (pss_one (ps_ret (pe_op op_modN (pe_op op_add (pe_op op_mul (pe_op op_modN (pv 2) pe_int) pe_int) (pe_op op_mul (pv 1) pe_int)) pe_int)))))), ?_⟩
    unfold cellV at q
    refine q_when (et_test (ev_op (ev_var rfl) (ev_lenLI (ev_var rfl) hL) rv_I0)) (fun hb H1 e1 => ?_) (fun hb H1 e1 => ?_)
    · have hk : k < ns.length := by have := of_decide_eq_true hb; omega
      refine s_ret (ev_item (v := ns.getD k 0) (ev_var rfl) (ev_var rfl) (hL.mono e1) (by rw [List.getD_eq_getElem?_getD, List.getElem?_eq_getElem hk]; rfl)) fun H2 e2 => ?_
      have := q H2 (e1.trans e2)
      rw [if_pos hk] at this
      exact this
    · have hk : ¬ k < ns.length := fun z => (of_decide_eq_false hb) (by omega)
      rw [if_neg hk] at q
      have fin : ∀ (b : Int) H1, b = ns.getD 0 0 → Ex H H1 → tRet (tOp (rI (fun _ j => j ≠ 0) fun i j => .int (i.fmod j)) (tOp (rI0 fun i j => .int (i + j)) (tOp (rI CMul fun i j => .int (i * j)) (tOp (rI (fun _ j => j ≠ 0) fun i j => .int (i.fmod j)) (tVar 2) (tC (.int 65521))) (tC (.int 48271))) (tOp (rI CMul fun i j => .int (i * j)) (tVar 1) (tC (.int 30103)))) (tC (.int 65521)))
          { nx := fun _ H' => Q .non H', rt := Q } [some (.ref a), some (.int (k : Int)), some (.int b)] H1 := fun b H1 hb e1 =>
        s_ret (ev_mod (ev_op (ev_op (ev_mod (ev_var rfl) ev_c (by decide)) ev_c (rv_I (.inr ⟨by decide, by decide⟩))) (ev_op (ev_var rfl) ev_c (rv_I (.inr ⟨by decide, by decide⟩))) rv_I0) ev_c (by decide)) fun H2 e2 => by
          rw [hb]
          exact q H2 (e1.trans e2)
      refine q_asg ev_c fun H2 e2 => q_when (et_test (ev_op (ev_lenLI (ev_var rfl) (hL.mono (e1.trans e2))) ev_c rv_I0)) (fun hb H3 e3 => ?_) (fun hb H3 e3 => ?_)
      · have h0 : 0 < ns.length := by have := of_decide_eq_true hb; omega
        exact s_asg (ev_item (i := 0) (v := ns.getD 0 0) (ev_var rfl) ev_c (hL.mono ((e1.trans e2).trans e3)) (by rw [List.getD_eq_getElem?_getD, List.getElem?_eq_getElem h0]; rfl)) fun H4 e4 => fin _ H4 rfl (((e1.trans e2).trans e3).trans e4)
      · have h0 : ns.length = 0 := by have := of_decide_eq_false hb; omega
        exact fin 0 H3 (by rw [List.getD_eq_getElem?_getD, List.getElem?_eq_none (by omega)]; rfl) ((e1.trans e2).trans e3)
/-- a call of it -/
theorem ev_cv {H : Hp} {σ : St} {a : Addr} {ns : List Int} {E : XK} {ta : TA} {j : Nat} (hL : LI K H a ns) (h : EvA ta σ H [.ref a, .int (j : Int)]) (hj : j ≤ 100000) : Ev (tCall (sp__law_cell K) [] E ta) σ H (.int (cellV ns j)) :=
  ev_call h fun H1 e1 Q q E => ⟨a, ns, j, rfl, hL.mono e1, hj, q⟩
theorem ok__law_form (T : Txt K mg) (G__law_cell : FnOk P w K mg base CX0 k T.f__law_cell T.d__law_cell ["script", "k"] (sp__law_cell K)) : FnOk P w K mg base CX0 (k + 1) T.f__law_form T.d__law_form ["script", "k", "most"] (sp__law_form K) := by
  refine T.F__law_form.ok sc__law_form (fun vs H Q E h => ?_) (fun cdv A outer s H vs Q E hr h => ?_)
  · obtain ⟨a, ns, k, most, rfl, _⟩ := h
    rfl
  · obtain ⟨a, ns, k, most, rfl, hL, hk, hm1, hm6, q⟩ := h
    refine ⟨_, (pss_cons (ps_set (i := 3) sc__law_form.nd rfl (.inr rfl) (pe_op op_add pe_int (pe_op op_modN (pe_call G__law_cell hr rfl T.m__law_cell T.F__law_cell.kp T.b__law_cell .nil pass0 (pa_cons (pv 0) (pa_cons (pv 1) pa_nil))) (pv 2))))
      (pss_cons (ps_set (i := 4) sc__law_form.nd rfl (.inl rfl) (pe_op op_modN (pe_call G__law_cell hr rfl T.m__law_cell T.F__law_cell.kp T.b__law_cell .nil pass0 (pa_cons (pv 0) (pa_cons (pe_op op_add (pv 1) pe_int) pa_nil))) pe_int))
      (pss_cons (ps_setLc (i := 5) (own := [("i", 7)]) rfl sc__law_form.nd rfl rfl (sw_true rfl rfl rfl (by decide +kernel)) (pi_range1 rfl T.b_range (pa_cons (pv 3) pa_nil)) (blkOk_by (own := [("i", 7)]) (N := N__law_form) (sc := defScope s__law_form) (by decide +kernel)) (fun _ _ _ _ _ => (pg_name (i := 7) sc__law_form.nd rfl (.inl rfl))) (fun _ _ _ _ _ => pts_nil) (fun _ _ _ _ _ => (pe_lc (own := [("j", 8)]) rfl sc__law_form.nd (pi_range1 rfl T.b_range (pa_cons (pv 3) pa_nil)) (blkOk_by (own := [("j", 8)]) (N := N__law_form) (sc := relS { kind := .function, names := [(PySem.Str.ofString ".0", PySem.NameKind.local), (PySem.Str.ofString "i", PySem.NameKind.local), (PySem.Str.ofString "range", PySem.NameKind.globalImplicit), (PySem.Str.ofString "count", PySem.NameKind.free)], isGenerator := false, isCoroutine := false, more := [] } (defScope s__law_form)) (by decide +kernel)) (fun _ _ _ _ _ => (pg_name (i := 8) sc__law_form.nd rfl (.inl rfl))) (fun _ _ _ _ _ => pts_nil) (fun _ _ _ _ _ => pe_int))))
      (pss_cons (ps_set (i := 6) sc__law_form.nd rfl (.inl rfl) (pe_op op_add (pv 1) pe_int))
      (pss_cons (ps_for PassesOwn.never rfl (pi_range1 rfl T.b_range (pa_cons (pv 3) pa_nil)) (pg_name (i := 7) sc__law_form.nd rfl (.inl rfl))
        (pss_one (ps_for PassesOwn.never rfl (pi_range1 rfl T.b_range (pa_cons (pv 7) pa_nil)) (pg_name (i := 8) sc__law_form.nd rfl (.inl rfl))
        (pss_cons (ps_set (i := 9) sc__law_form.nd rfl (.inl rfl) (pe_call G__law_cell hr rfl T.m__law_cell T.F__law_cell.kp T.b__law_cell .nil pass0 (pa_cons (pv 0) (pa_cons (pv 6) pa_nil))))
      (pss_cons (ps_set (i := 6) sc__law_form.nd rfl (.inl rfl) (pe_op op_add (pv 6) pe_int))
      (pss_cons (ps_set (i := 10) sc__law_form.nd rfl (.inl rfl) (pe_ix (ixL K) (pe_lst (pa_cons (pe_op op_sub (pe_op op_modN (pv 9) pe_int) pe_int) (pa_cons (pe_op op_sub (pe_op op_modN (pv 9) pe_int) pe_int) (pa_cons (pe_op op_sub (pe_op op_modN (pv 9) pe_int) pe_int) (pa_cons (pe_op op_sub (pe_op op_modN (pv 9) pe_int) pe_int) pa_nil))))) (pv 4) (fun _ _ => rfl)))
      (pss_cons (ps_if (PW.pt (pw_and (pt_cmpR op_eq (pv 4) pe_int (nomark _)) (pw_and1 (pt_cmpR op_eq (pe_op op_modN (pe_op op_fdivN (pv 9) pe_int) pe_int) pe_int (nomark _)))))
        (pss_one (ps_set (i := 10) sc__law_form.nd rfl (.inl rfl) pe_int))
        pss_nil)
      (pss_cons (ps_asg (pv 10) (pg_sub (pe_ix (ixL K) (pv 5) (pv 7) (fun _ _ => rfl)) (pv 8) set_list))
      (pss_one (ps_asg (pe_op op_sub pe_int (pv 10)) (pg_sub (pe_ix (ixL K) (pv 5) (pv 8) (fun _ _ => rfl)) (pv 7) set_list)))))))))))
      (pss_one (ps_ret (pv 5)))))))), ?_⟩
    refine q_asg (ev_op ev_c (ev_mod (ev_cv hL (ea_cons (ev_var rfl) (ea_cons (ev_var rfl) ea_nil)) (by omega)) (ev_var rfl) (by omega)) rv_I0) fun H1 e1 => ?_
    obtain ⟨n, hn⟩ : ∃ n : Nat, 1 + cellV ns k % (most : Int) = (n : Int) := ⟨(1 + cellV ns k % (most : Int)).toNat, by have := Int.emod_nonneg (cellV ns k) (show (most : Int) ≠ 0 by omega); omega⟩
    have hn1 : 1 ≤ n := by have := Int.emod_nonneg (cellV ns k) (show (most : Int) ≠ 0 by omega); omega
    have hnm : n ≤ most := by have := Int.emod_lt_of_pos (cellV ns k) (show (0 : Int) < most by omega); omega
    rw [hn]
    have hL1 := hL.mono e1
    refine q_asg (ev_mod (ev_cv (j := k + 1) hL1 (ea_cons (ev_var rfl) (ea_cons (ev_op (ev_var rfl) ev_c rv_I0) ea_nil)) (by omega)) ev_c (by decide)) fun H2 e2 => ?_
    obtain ⟨m, hm⟩ : ∃ m : Nat, cellV ns (k + 1) % 4 = (m : Int) := ⟨(cellV ns (k + 1) % 4).toNat, by omega⟩
    have hm4 : m < 4 := by omega
    rw [hm]
    refine qr_asg (em_lcR (n := (n : Int)) (fun i => (List.range n).map fun _ => 0) (ea_cons (ev_var rfl) ea_nil) (by omega) (fun _ => rfl) (fun i H3 e3 hi => er_of_evl ?_)) fun v H3 e3 ⟨p, hv, hO⟩ => ?_
    · have := el_lcR1 (n := (n : Int)) (σ := wipe [some (V.ref a), some (.int (k : Int)), some (.int (most : Int)), some (.int (n : Int)), some (.int (m : Int)), none, none, none, none, none, none] [7] |>.set 7 (some (.int (i : Int)))) (H := H3) (ta := tCons (tVar 3) tNil) (j := 8) (vs := [8]) (t := tYes) (te := tC (.int 0)) (fun _ => true) (fun _ => .int 0) (ea_cons (ev_var rfl) ea_nil) (by omega) (fun _ => rfl) (fun _ _ _ _ _ _ Q q => q _ (Ex.refl _)) (fun _ _ _ _ _ => ev_c)
      unfold given at this
      rw [filt_all] at this
      rw [List.map_map]
      exact this
    subst hv
    rw [show (n : Int).toNat = n from Int.toNat_natCast n] at hO
    have hO1 : OLLI H2 H3 p (Fm n fun _ _ => 0) := hO
    have hO2 : OLLI H H3 p (Fm n fun _ _ => 0) := hO1.back (e1.trans e2)
    refine q_asg (ev_op (ev_var rfl) ev_c rv_I0) fun H4 e4 => ?_
    have eH4 := ((e1.trans e2).trans e3).trans e4
    -- the loops
    refine q_forR1 (n := (n : Int)) (ea_cons (ev_var rfl) ea_nil) (by omega) (fun i σ' H' => ∃ f x8 x9 x10, ∃ at_ : Nat, ∃ x7, σ' = [some (.ref a), some (.int (k : Int)), some (.int (most : Int)), some (.int (n : Int)), some (.int (m : Int)), some (.ref p), some (.int (at_ : Int)), x7, x8, x9, x10] ∧ Ex H H' ∧
        OLLI H H' p (Fm n f) ∧ (∀ a b, a < n → b < n → f a b = 0 - f b a ∧ -99 ≤ f a b ∧ f a b ≤ 99) ∧ at_ ≤ k + 2 + 6 * i)
      (fun H5 e5 => ⟨_, _, _, _, k + 2, _, rfl, eH4.trans e5, hO2.mono (e4.trans e5), fun _ _ _ _ => by simp, by omega⟩) (fun i σ' H' hi hP => ?_) (fun σ' H' hP => ?_)
    · obtain ⟨f, x8, x9, x10, at_, x7, rfl, eH, hO, hf, hat⟩ := hP
      have hi' : i < n := by omega
      refine s_forR1 (n := (i : Int)) (ea_cons (ev_var rfl) ea_nil) (by omega) (fun j σ' H' => ∃ f x8 x9 x10, ∃ at_ : Nat, σ' = [some (.ref a), some (.int (k : Int)), some (.int (most : Int)), some (.int (n : Int)), some (.int (m : Int)), some (.ref p), some (.int (at_ : Int)), some (.int (i : Int)), x8, x9, x10] ∧ Ex H H' ∧
          OLLI H H' p (Fm n f) ∧ (∀ a b, a < n → b < n → f a b = 0 - f b a ∧ -99 ≤ f a b ∧ f a b ≤ 99) ∧ at_ ≤ k + 2 + 6 * i + j)
        (fun H5 e5 => ⟨_, _, _, _, at_, rfl, eH.trans e5, hO.mono e5, hf, by omega⟩) (fun j σ' H' hj hP => ?_) (fun σ' H' hP => ?_)
      · obtain ⟨f, x8, x9, x10, at_, rfl, eH, hO, hf, hat⟩ := hP
        have hj' : j < i := by omega
        refine q_asg (ev_cv (hL.mono eH) (ea_cons (ev_var rfl) (ea_cons (ev_var rfl) ea_nil)) (by omega)) fun H5 e5 => ?_
        generalize cellV ns at_ = c
        refine q_asg (ev_op (ev_var rfl) ev_c rv_I0) fun H6 e6 => ?_
        refine q_asg (ev_menu (i := m) (v := .int (([c % 3 - 1, c % 5 - 2, c % 3 - 1, c % 199 - 99] : List Int).getD m 0)) (ea_cons (ev_op (ev_mod (ev_var rfl) ev_c (by decide)) ev_c rv_I0) (ea_cons (ev_op (ev_mod (ev_var rfl) ev_c (by decide)) ev_c rv_I0) (ea_cons (ev_op (ev_mod (ev_var rfl) ev_c (by decide)) ev_c rv_I0) (ea_cons (ev_op (ev_mod (ev_var rfl) ev_c (by decide)) ev_c rv_I0) ea_nil)))) (by show 4 ≤ 100000; decide) (fun _ _ => ev_var rfl) ?_) fun H7 e7 => ?_
        · rcases (show m = 0 ∨ m = 1 ∨ m = 2 ∨ m = 3 by omega) with rfl | rfl | rfl | rfl <;> rfl
        have hnum : ∃ z : Int, ([c % 3 - 1, c % 5 - 2, c % 3 - 1, c % 199 - 99] : List Int).getD m 0 = z ∧ -99 ≤ z ∧ z ≤ 99 := by
          rcases (show m = 0 ∨ m = 1 ∨ m = 2 ∨ m = 3 by omega) with rfl | rfl | rfl | rfl
          · exact ⟨c % 3 - 1, rfl, by omega, by omega⟩
          · exact ⟨c % 5 - 2, rfl, by omega, by omega⟩
          · exact ⟨c % 3 - 1, rfl, by omega, by omega⟩
          · exact ⟨c % 199 - 99, rfl, by omega, by omega⟩
        obtain ⟨z, hz, hz1, hz2⟩ := hnum
        rw [hz]
        have eH7 := ((eH.trans e5).trans e6).trans e7
        have fin : ∀ (y : Int) H8, -99 ≤ y → y ≤ 99 → Ex H7 H8 → tSeq (tAsg (tVar 10) (gSub (tOp (rIxL K) (tVar 5) (tVar 7)) (tVar 8) rSetL)) (tAsg (tOp (rI0 fun i j => V.int (i - j)) (tC (.int 0)) (tVar 10)) (gSub (tOp (rIxL K) (tVar 5) (tVar 8)) (tVar 7) rSetL))
            { nx := fun σ' H' => ∃ f x8 x9 x10, ∃ at_ : Nat, σ' = [some (.ref a), some (.int (k : Int)), some (.int (most : Int)), some (.int (n : Int)), some (.int (m : Int)), some (.ref p), some (.int (at_ : Int)), some (.int (i : Int)), x8, x9, x10] ∧ Ex H H' ∧
                OLLI H H' p (Fm n f) ∧ (∀ a b, a < n → b < n → f a b = 0 - f b a ∧ -99 ≤ f a b ∧ f a b ≤ 99) ∧ at_ ≤ k + 2 + 6 * i + (j + 1), rt := Q }
            [some (.ref a), some (.int (k : Int)), some (.int (most : Int)), some (.int (n : Int)), some (.int (m : Int)), some (.ref p), some (.int (((at_ + 1 : Nat) : Nat) : Int)), some (.int (i : Int)), some (.int (j : Int)), some (.int c), some (.int y)] H8 := fun y H8 hy1 hy2 e8 => by
          refine q_setFm (i := i) (j := j) (hO.mono ((e5.trans e6).trans (e7.trans e8))) (eH7.trans e8) hi' (by omega) (ev_var rfl) (ev_var rfl) (ev_var rfl) (ev_var rfl) fun H9 e9 hO9 => ?_
          refine s_setFm (i := j) (j := i) hO9 e9 (by omega) hi' (ev_op ev_c (ev_var rfl) rv_I0) (ev_var rfl) (ev_var rfl) (ev_var rfl) fun H10 e10 hO10 => ?_
          refine ⟨_, _, _, _, _, rfl, e10, hO10, fun a b ha hb => ?_, by omega⟩
          have hfa := hf a b ha hb
          unfold setF
          by_cases q1 : a = j ∧ b = i
          · obtain ⟨rfl, rfl⟩ := q1
            rw [if_pos ⟨rfl, rfl⟩, if_neg (by omega), if_pos ⟨rfl, rfl⟩]
            omega
          · rw [if_neg q1]
            by_cases q2 : a = i ∧ b = j
            · obtain ⟨rfl, rfl⟩ := q2
              rw [if_pos ⟨rfl, rfl⟩, if_pos ⟨rfl, rfl⟩]
              omega
            · rw [if_neg q2, if_neg (by omega), if_neg (by omega)]
              exact hfa
        refine q_when (et_and (et_test (ev_op (ev_var rfl) ev_c (rv_eq rfl))) fun _ => et_test (ev_op (ev_mod (ev_div (ev_var rfl) ev_c (by decide) (by decide)) ev_c (by decide)) ev_c (rv_eq rfl))) (fun hb H8 e8 => s_asg ev_c fun H9 e9 => ?_) (fun hb H8 e8 => ?_)
        · exact fin 0 H9 (by omega) (by omega) (e8.trans e9)
        · exact fin z H8 hz1 hz2 e8
      · obtain ⟨f, x8, x9, x10, at_, rfl, eH, hO, hf, hat⟩ := hP
        exact ⟨f, _, _, _, at_, _, rfl, eH, hO, hf, by omega⟩
    · obtain ⟨f, x8, x9, x10, at_, x7, rfl, eH, hO, hf, hat⟩ := hP
      exact s_ret (ev_var rfl) fun H5 e5 => q n f H5 p (eH.trans e5) ⟨hn1, by omega, hf⟩ hnm (hO.mono e5)
theorem ok__law_copy (T : Txt K mg) : FnOk P w K mg base CX0 (k + 1) T.f__law_copy T.d__law_copy ["form"] (sp__law_copy K) := by
  refine T.F__law_copy.ok sc__law_copy (fun vs H Q E h => ?_) (fun cdv A outer s H vs Q E hr h => ?_)
  · obtain ⟨a, M, rfl, _⟩ := h
    rfl
  · obtain ⟨a, M, rfl, hM, hl, q⟩ := h
    refine ⟨_, (pss_one (ps_ret (pe_lc (own := [("numbers", 1)]) rfl sc__law_copy.nd (pi_listK K (pv 0)) (blkOk_by (own := [("numbers", 1)]) (N := N__law_copy) (sc := defScope s__law_copy) (by decide +kernel)) (fun _ _ _ _ _ => (pg_name (i := 1) sc__law_copy.nd rfl (.inl rfl))) (fun _ _ _ _ _ => pts_nil) (fun _ _ _ _ _ => (pe_callTy (listK K) rfl T.b_list (by decide +kernel) (pa_cons (pv 1) pa_nil)))))), ?_⟩
    obtain ⟨as, hA, hP⟩ := id hM
    have hlen := hP.length
    refine sr_ret (em_lcL (fun i => M.getD i []) (ev_var rfl) hA (by rw [List.length_map]; omega) (fun _ => rfl) (fun i x H1 e1 hx => er_of_evl ?_)) fun v H1 e1 ⟨p, hv, hO⟩ => ?_
    · rw [List.getElem?_map] at hx
      cases hy : as[i]? with
      | none => rw [hy] at hx; cases hx
      | some y =>
        rw [hy] at hx
        cases hx
        obtain ⟨r, h1, h2⟩ := paired_getL hP hy
        rw [List.getD_eq_getElem?_getD, h1]
        exact el_list (ev_var rfl) (h2.mono e1)
    · subst hv
      rw [List.length_map, hlen, ← list_eq_range] at hO
      exact q H1 p e1 hO
end
end AT

/-! ## the known defs' calls in one word; what turning keeps -/
namespace AT
open PySem PySem.Spec PyProof.Rows L2 Evl
section
variable {K : Frag} {σ : St} {H : Hp} {ta : TA} {te t1 : TE} {a p : Addr} {M : List (List Int)} {ns : List Int} {E : XK} {C1 C2 : Addr}
/-- a form drawn -/
def RForm (most : Nat) : R3 := fun H1 H2 v => ∃ n f p, v = .ref p ∧ FormOf n f ∧ n ≤ most ∧ OLLI H1 H2 p (Fm n f)
theorem mon_RForm {most : Nat} : Mon (RForm most) := ⟨fun e ⟨n, f, p, h1, h2, h3, h4⟩ => ⟨n, f, p, h1, h2, h3, h4.mono e⟩, fun e ⟨n, f, p, h1, h2, h3, h4⟩ => ⟨n, f, p, h1, h2, h3, h4.back e⟩⟩
theorem er_form {j most : Nat} (hL : LI K H a ns) (h : EvA ta σ H [.ref a, .int (j : Int), .int (most : Int)]) (hj : j ≤ 1000) (h1 : 1 ≤ most) (h6 : most ≤ 6) : Er (tCall (sp__law_form K) [] E ta) σ H (RForm most) :=
  er_call mon_RForm h fun H1 e1 Q q E => ⟨a, ns, j, most, rfl, hL.mono e1, hj, h1, h6, fun n f H' p e hf hm hO => q _ H' e ⟨n, f, p, rfl, hf, hm, hO⟩⟩
theorem er_copy (h : Ev te σ H (.ref a)) (hM : LLI K H a M) (hl : M.length ≤ 1000) : Er (tCall (sp__law_copy K) [] E (tCons te tNil)) σ H (RM M) :=
  er_call mon_RM (ea_cons h ea_nil) fun H1 e1 Q q E => ⟨a, M, rfl, hM.mono e1, hl, fun H' p e hO => q _ H' e ⟨p, rfl, hO⟩⟩
theorem fmI {n : Nat} {f : Nat → Nat → Int} (hf : FormOf n f) : IsForm (Fm n f) := ⟨n, f, rfl, hf⟩
theorem turnF_ext {n k : Nat} {f g : Nat → Nat → Int} (hk : k < n) (h : ∀ i j, i < n → j < n → f i j = g i j) : Fm n (turnF f k) = Fm n (turnF g k) := fm_ext fun a b ha hb => by
  unfold turnF
  rw [h a b ha hb, h a k ha hk, h k b hk hb]
/-- turned: its promise at a form and a box of it -/
theorem spr_turned {n k : Nat} {f : Nat → Nat → Int} (hf : FormOf n f) (hk : k < n) (hM : LLI K H a (Fm n f)) : SpR (sp_turned K C1 C2) [.ref a, .int (k : Int)] H (RM (Fm n (turnF f k))) := fun H1 e1 Q q E => by
  refine ⟨a, _, _, rfl, hM.mono e1, small_fm (by have := hf.2.1; omega), fun hF => absurd (fmI hf) hF, fun n' f' e hf' => ?_⟩
  obtain ⟨rfl, ee⟩ := fm_inj e
  refine ⟨fun j hj hjn H' p e hO => q _ H' e ⟨p, rfl, ?_⟩, fun z => by omega⟩
  have hji : j = k := by omega
  subst hji
  rw [turnF_ext hjn ee]
  exact hO
theorem er_turned {n k : Nat} {f : Nat → Nat → Int} (hf : FormOf n f) (hk : k < n) (hM : LLI K H a (Fm n f)) (h : EvA ta σ H [.ref a, .int (k : Int)]) : Er (tCall (sp_turned K C1 C2) [] E ta) σ H (RM (Fm n (turnF f k))) :=
  er_call mon_RM h (spr_turned hf hk hM)
theorem spv_is_form (hM : LLI K H a M) (hs : SmallM M) : SpV (sp_is_form K) [.ref a] H (.bl (dec (IsForm M))) := fun H1 e1 Q q E => ⟨a, M, rfl, hM.mono e1, hs.1, hs.2, fun b H2 e2 hb => by rw [dec_eq hb]; exact q H2 e2⟩
/-- a new list of lists is like another one -/
theorem spv_like {b : Addr} {N : List (List Int)} (hO : TLL H a M) (hN : LLI K H b N) (hs : SmallM M) : SpV (sp__law_like K) [.ref a, .ref b] H (.bl (decide (M = N))) := fun H1 e1 Q q E => ⟨a, b, M, N, rfl, hO.mono e1, hN.mono e1, hs, q⟩
theorem ev_likeR {t2 : TE} {b : Addr} {N : List (List Int)} (h1 : Er t1 σ H (RM M)) (h2 : Ev t2 σ H (.ref b)) (hN : LLI K H b N) (hs : SmallM M) : Ev (tCall (sp__law_like K) [] E (tCons t1 (tCons t2 tNil))) σ H (.bl (decide (M = N))) :=
  ev_callR1 h1 (ea_cons h2 ea_nil) fun v1 G1 G2 G3 g1 g2 g3 ⟨c, hc, hOc⟩ => by
    subst hc
    exact spv_like (hOc.tll.mono g3) (hN.mono ((g1.trans g2).trans g3)) hs
theorem er_turnedR {t2 : TE} {n k : Nat} {f : Nat → Nat → Int} (hf : FormOf n f) (hk : k < n) (h1 : Er t1 σ H (RM (Fm n f))) (h2 : Ev t2 σ H (.int (k : Int))) : Er (tCall (sp_turned K C1 C2) [] E (tCons t1 (tCons t2 tNil))) σ H (RM (Fm n (turnF f k))) :=
  er_callR1 mon_RM h1 (ea_cons h2 ea_nil) fun v1 G1 G2 G3 g1 g2 g3 ⟨c, hc, hOc⟩ => by
    subst hc
    exact spr_turned hf hk (hOc.lli.mono g3)
theorem ev_isFormR (h1 : Er t1 σ H (RM M)) (hs : SmallM M) : Ev (tCall (sp_is_form K) [] E (tCons t1 tNil)) σ H (.bl (dec (IsForm M))) :=
  ev_callR1 h1 ea_nil fun v1 G1 G2 G3 g1 g2 g3 ⟨c, hc, hOc⟩ => by
    subst hc
    exact spv_is_form (hOc.lli.mono g3) hs
end

/-! ### the rule of turning: skew, undone by itself -/
def Skew (n : Nat) (f : Nat → Nat → Int) : Prop := ∀ i j, i < n → j < n → f i j = 0 - f j i
theorem FormOf.skew {n : Nat} {f : Nat → Nat → Int} (h : FormOf n f) : Skew n f := fun i j hi hj => (h.2.2 i j hi hj).1
theorem thr_neg (a b : Int) : thr (0 - b) (0 - a) = 0 - thr a b := by
  unfold thr
  have e : (0 - b) * (0 - a) = a * b := by rw [Int.zero_sub, Int.zero_sub, Int.neg_mul_neg, Int.mul_comm]
  rw [e]
  by_cases h1 : 0 < a ∧ 0 < b
  · rw [if_neg (by omega), if_pos (by omega), if_pos h1]
  · by_cases h2 : a < 0 ∧ b < 0
    · rw [if_pos (by omega), if_neg h1, if_pos h2]
      omega
    · rw [if_neg (by omega), if_neg (by omega), if_neg h1, if_neg h2]
      rfl
theorem thr_neg' (a b : Int) : thr (0 - a) (0 - b) = 0 - thr a b := by
  unfold thr
  have e : (0 - a) * (0 - b) = a * b := by rw [Int.zero_sub, Int.zero_sub, Int.neg_mul_neg]
  rw [e]
  by_cases h1 : 0 < a ∧ 0 < b
  · rw [if_neg (by omega), if_pos (by omega), if_pos h1]
  · by_cases h2 : a < 0 ∧ b < 0
    · rw [if_pos (by omega), if_neg h1, if_pos h2]
      omega
    · rw [if_neg (by omega), if_neg (by omega), if_neg h1, if_neg h2]
      rfl
theorem turnF_skew {n k : Nat} {f : Nat → Nat → Int} (hs : Skew n f) (hk : k < n) : Skew n (turnF f k) := fun i j hi hj => by
  unfold turnF
  have h1 := hs i j hi hj
  by_cases h : i = k ∨ j = k
  · rw [if_pos h, if_pos (by omega)]
    omega
  · rw [if_neg h, if_neg (by omega), hs j k hj hk, hs k i hk hi, thr_neg]
    omega
theorem turnF_twice {n k : Nat} {f : Nat → Nat → Int} (hk : k < n) : Fm n (turnF (turnF f k) k) = Fm n f := fm_ext fun i j hi hj => by
  by_cases h : i = k ∨ j = k
  · show (if i = k ∨ j = k then 0 - turnF f k i j else _) = _
    rw [if_pos h]
    unfold turnF
    rw [if_pos h]
    omega
  · show (if i = k ∨ j = k then _ else turnF f k i j + thr (turnF f k i k) (turnF f k k j)) = _
    rw [if_neg h]
    have e1 : turnF f k i j = f i j + thr (f i k) (f k j) := by unfold turnF; rw [if_neg h]
    have e2 : turnF f k i k = 0 - f i k := by unfold turnF; rw [if_pos (.inr rfl)]
    have e3 : turnF f k k j = 0 - f k j := by unfold turnF; rw [if_pos (.inl rfl)]
    rw [e1, e2, e3, thr_neg']
    omega
end AT

/-! ## names: lists of all boxes' numbers -/
namespace AT
open PySem PySem.Spec PyProof.Rows L2 Evl
def nI (ps : List Nat) : List Int := ps.map fun x : Nat => (x : Int)
theorem nI_len {ps : List Nat} : (nI ps).length = ps.length := by unfold nI; rw [List.length_map]
/-- ps names the n boxes -/
def Names (n : Nat) (ps : List Nat) : Prop := ps.Perm (List.range n)
def IsNames (n : Nat) (xs : List Int) : Prop := xs.Perm (nI (List.range n))
theorem Names.len {n : Nat} {ps : List Nat} (h : Names n ps) : ps.length = n := by rw [h.length_eq, List.length_range]
theorem Names.nd {n : Nat} {ps : List Nat} (h : Names n ps) : ps.Nodup := (List.Perm.nodup_iff h).mpr List.nodup_range
theorem Names.mem {n : Nat} {ps : List Nat} (h : Names n ps) {x : Nat} : x ∈ ps ↔ x < n := by rw [List.Perm.mem_iff h, List.mem_range]
theorem Names.lt {n i : Nat} {ps : List Nat} (h : Names n ps) (hi : i < n) : ∃ x, ps[i]? = some x ∧ x < n := by
  have hl : i < ps.length := by rw [h.len]; exact hi
  exact ⟨ps[i], List.getElem?_eq_getElem hl, h.mem.mp (List.getElem_mem hl)⟩
theorem Names.ix {n k : Nat} {ps : List Nat} (h : Names n ps) (hk : k < n) : ps.idxOf k < n := by
  have := List.idxOf_lt_length_iff.mpr (h.mem.mpr hk)
  rw [h.len] at this
  exact this
theorem Names.at_ix {n k : Nat} {ps : List Nat} (h : Names n ps) (hk : k < n) : ps[ps.idxOf k]? = some k := by
  have hl := List.idxOf_lt_length_iff.mpr (h.mem.mpr hk)
  rw [List.getElem?_eq_getElem hl, List.getElem_idxOf]
theorem Names.ix_at {n i x : Nat} {ps : List Nat} (h : Names n ps) (hx : ps[i]? = some x) : ps.idxOf x = i := by
  obtain ⟨hi, e⟩ := List.getElem?_eq_some_iff.mp hx
  rw [← e]
  exact h.nd.idxOf_getElem i hi
theorem isNames_iff {n : Nat} {xs : List Int} : IsNames n xs ↔ ∃ ps, Names n ps ∧ xs = nI ps := by
  constructor
  · intro h
    have hx : ∀ x, x ∈ xs → 0 ≤ x := fun x hx => by
      obtain ⟨y, _, rfl⟩ := List.mem_map.mp ((List.Perm.mem_iff h).mp hx)
      omega
    refine ⟨xs.map Int.toNat, ?_, ?_⟩
    · have := h.map Int.toNat
      have e : (nI (List.range n)).map Int.toNat = List.range n := by
        unfold nI
        rw [List.map_map]
        conv => rhs; rw [← List.map_id (List.range n)]
        exact List.map_congr_left fun x _ => by simp
      rw [e] at this
      exact this
    · unfold nI
      rw [List.map_map]
      conv => lhs; rw [← List.map_id xs]
      exact List.map_congr_left fun x hx' => by have := hx x hx'; simp; omega
  · rintro ⟨ps, h, rfl⟩
    exact h.map _
/-- f renamed: at the names of two boxes what stood at the two -/
def renF (f : Nat → Nat → Int) (ps : List Nat) : Nat → Nat → Int := fun i j => f (ps.idxOf i) (ps.idxOf j)
theorem idx_nI (ps : List Nat) (k : Nat) : (nI ps).idxOf (k : Int) = ps.idxOf k := by
  induction ps with
  | nil => rfl
  | cons a r ih =>
    show List.idxOf (k : Int) ((a : Int) :: nI r) = _
    rw [List.idxOf_cons, List.idxOf_cons, ih]
    by_cases e : a = k
    · subst e; simp
    · have : ¬ (a : Int) = (k : Int) := by omega
      have e1 : (a == k) = false := by simpa using e
      have e2 : ((a : Int) == (k : Int)) = false := by simpa using this
      rw [e1, e2]
def sp_renamed_by (K : Frag) : Sp := fun vs H Q _ => ∃ a b n f ps, vs = [.ref a, .ref b] ∧ LLI K H a (Fm n f) ∧ LI K H b (nI ps) ∧ Names n ps ∧ n ≤ 100 ∧ ∀ H' p, Ex H H' → OLLI H H' p (Fm n (renF f ps)) → Q (.ref p) H'
def sp_renamed (K : Frag) (CF CN : Addr) : Sp := fun vs H Q E => ∃ a b M xs, vs = [.ref a, .ref b] ∧ LLI K H a M ∧ SmallM M ∧ LI K H b xs ∧ xs.length < 64 ∧ (¬ IsForm M → ∀ H', Ex H H' → E (.ref CF) none H') ∧
  (∀ n f, M = Fm n f → FormOf n f → (¬ IsNames n xs → ∀ H', Ex H H' → E (.ref CN) none H') ∧ (∀ ps, Names n ps → xs = nI ps → ∀ H' p, Ex H H' → OLLI H H' p (Fm n (renF f ps)) → Q (.ref p) H'))
def sp__law_renamed (K : Frag) : Sp := sp_renamed_by K
def sp__law_some_names (K : Frag) : Sp := fun vs H Q _ => ∃ (a : Addr) (ns : List Int) (k n : Nat), vs = [.ref a, .int (k : Int), .int (n : Int)] ∧ LI K H a ns ∧ k ≤ 1000 ∧ n ≤ 20 ∧ ∀ ps H' p, Ex H H' → Names n ps → OLI H H' p (nI ps) → Q (.ref p) H'
section
variable {P : Program} {w : World} {K : Frag} {mg : Str → Option Value} {base : Heap} {k : Nat}
theorem idx_first {xs : List Int} {k : Int} {m : Nat} {z : Int} (hm : m < xs.idxOf k) (hz : xs[m]? = some z) : z ≠ k := fun e => by
  subst e
  obtain ⟨h, e⟩ := List.getElem?_eq_some_iff.mp hz
  have := List.not_of_lt_findIdx (p := (· == z)) (xs := xs) (show m < List.findIdx (· == z) xs from hm)
  simp at this
  exact this e
/-- xs.index(k) -/
theorem ev_index {σ : St} {H : Hp} {a : Addr} {xs : List Int} {k : Int} {ta tb : TE} (ha : Ev ta σ H (.ref a)) (hb : Ev tb σ H (.int k)) (hL : LI K H a xs) (hk : k ∈ xs) : Ev (tBM K "list" (rIndex K) ta (tCons tb tNil)) σ H (.int ((xs.idxOf k : Nat) : Int)) := fun H1 e Q q =>
  ha H1 e _ fun H2 e2 => ⟨.inl ⟨rfl, _, hL.mono (e.trans e2)⟩, hb H2 (e.trans e2) _ fun H3 e3 => ⟨a, xs.map V.int, .int k, xs.idxOf k, .int k, rfl, rfl, hL.mono ((e.trans e2).trans e3), rfl, by simp [flatV], by
    have hl := List.idxOf_lt_length_iff.mpr hk
    rw [List.getElem?_map, List.getElem?_eq_getElem hl, List.getElem_idxOf]
    rfl, by simp [eqV], fun m z hm hz => by
    rw [List.getElem?_map] at hz
    cases h : xs[m]? with
    | none => rw [h] at hz; cases hz
    | some y =>
      rw [h] at hz
      cases hz
      simpa [eqV] using idx_first hm h, q H3 (e2.trans e3)⟩⟩
/-- list(range(n)) -/
theorem el_rangeL {σ : St} {H : Hp} {n : Nat} {ta : TE} (ha : Ev ta σ H (.int (n : Int))) (hn : n ≤ 100000) : EvL (tLstRg (tRg1 ta)) σ H ((nI (List.range n)).map V.int) := fun H1 e Q q =>
  ha H1 e _ fun H2 e2 => ⟨(n : Int), rfl, RgOk.of_le (by omega) (by omega) (by omega) (by omega), fun p hp => by
    refine q p _ (fresh_back e2 hp) (e2.trans (Ex.new hp)) ?_
    rw [upd_same]
    unfold rgV nI
    rw [List.map_map, show ((n : Int) - 0).toNat = n by omega]
    congr 2
    exact List.map_congr_left fun x _ => by simp⟩
/-- sorted(xs) == list(range(n)), != -/
theorem sorted_range {n : Nat} {xs ys : List Int} (h1 : ys.Perm xs) (h2 : ys.Pairwise (· ≤ ·)) : decide (ys = nI (List.range n)) = dec (IsNames n xs) := dec_eq (by
  rw [decide_eq_true_eq]
  constructor
  · rintro rfl
    exact h1.symm
  · intro h
    refine List.Perm.eq_of_pairwise (fun a b _ _ h1 h2 => Int.le_antisymm h1 h2) h2 ?_ (h1.trans h)
    unfold nI
    rw [List.pairwise_map]
    exact List.pairwise_lt_range.imp fun h => by omega)
theorem er_sorted {σ : St} {H : Hp} {a : Addr} {xs : List Int} {ta : TE} (ha : Ev ta σ H (.ref a)) (hL : LI K H a xs) (h64 : xs.length < 64) : Er (tCB (rSorted K) (tCons ta tNil)) σ H (fun H1 H2 v => ∃ (p : Addr) (ys : List Int), v = .ref p ∧ H1 p = none ∧ ys.Perm xs ∧ ys.Pairwise (· ≤ ·) ∧ H2 p = some (.lst (ys.map V.int))) := fun H1 e Q q =>
  ha H1 e _ fun H2 e2 => ⟨a, xs, rfl, hL.mono (e.trans e2), h64, fun ys p h1 h2 hp => q _ _ (e2.trans (Ex.new hp)) ⟨p, ys, rfl, fresh_back e2 hp, h1, h2, upd_same⟩⟩
theorem ev_isNames {σ : St} {H : Hp} {a : Addr} {n : Nat} {xs : List Int} {ta tb : TE} (ha : Ev ta σ H (.ref a)) (hb : Ev tb σ H (.int (n : Int))) (hL : LI K H a xs) (h64 : xs.length < 64) (hn : n ≤ 100000) :
    Ev (tOp (rEqD K) (tCB (rSorted K) (tCons ta tNil)) (tLstRg (tRg1 tb))) σ H (.bl (dec (IsNames n xs))) := fun H1 e Q q =>
  er_sorted ha hL h64 H1 e _ fun v H2 e2 ⟨p, ys, hv, hp0, h1, h2, hp⟩ => by
    subst hv
    refine el_rangeL hb hn H2 (e.trans e2) _ fun r H3 hr e3 hr3 => ?_
    rw [← sorted_range h1 h2] at q
    exact rv_eqI (sq_of (e3 _ _ hp)) (sq_of hr3) H3 (Ex.refl _) Q fun H4 e4 => q H4 ((e2.trans e3).trans e4)
theorem ev_isNotNames {σ : St} {H : Hp} {a : Addr} {n : Nat} {xs : List Int} {ta tb : TE} (ha : Ev ta σ H (.ref a)) (hb : Ev tb σ H (.int (n : Int))) (hL : LI K H a xs) (h64 : xs.length < 64) (hn : n ≤ 100000) :
    Ev (tOp (rNeD K) (tCB (rSorted K) (tCons ta tNil)) (tLstRg (tRg1 tb))) σ H (.bl (!dec (IsNames n xs))) := fun H1 e Q q =>
  er_sorted ha hL h64 H1 e _ fun v H2 e2 ⟨p, ys, hv, hp0, h1, h2, hp⟩ => by
    subst hv
    refine el_rangeL hb hn H2 (e.trans e2) _ fun r H3 hr e3 hr3 => ?_
    rw [← sorted_range h1 h2] at q
    exact rv_neI (sq_of (e3 _ _ hp)) (sq_of hr3) H3 (Ex.refl _) Q fun H4 e4 => q H4 ((e2.trans e3).trans e4)
theorem nI_erase (ls : List Nat) (i : Nat) : (nI ls).eraseIdx i = nI (ls.eraseIdx i) := map_erase _ ls i
theorem perm_erase : ∀ (ls : List Nat) (i : Nat) (h : i < ls.length), (ls[i] :: ls.eraseIdx i).Perm ls
  | a :: r, 0, _ => List.Perm.refl _
  | a :: r, i + 1, h => by
    have ih := perm_erase r i (by simpa using h)
    show (r[i]'(by simpa using h) :: a :: r.eraseIdx i).Perm (a :: r)
    exact (List.Perm.swap _ _ _).trans (ih.cons a)
theorem nI_get {ps : List Nat} {i x : Nat} (h : ps[i]? = some x) : (nI ps)[i]? = some (x : Int) := by unfold nI; rw [List.getElem?_map, h]; rfl
theorem ok_renamed_by (T : Txt K mg) : FnOk P w K mg base CX0 (k + 1) T.f_renamed_by T.d_renamed_by ["form", "names"] (sp_renamed_by K) := by
  refine T.F_renamed_by.ok sc_renamed_by (fun vs H Q E h => ?_) (fun cdv A outer s H vs Q E hr h => ?_)
  · obtain ⟨a, b, n, f, ps, rfl, _⟩ := h
    rfl
  · obtain ⟨a, b, n, f, ps, rfl, hM, hN, hps, hn, q⟩ := h
    refine ⟨_, (pss_cons (ps_set (i := 2) sc_renamed_by.nd rfl (.inr rfl) (pe_callB (lenK K) rfl T.b_len PySem.boot_len (pa_cons (pv 0) pa_nil)))
      (pss_cons (ps_set (i := 3) sc_renamed_by.nd rfl (.inr rfl) (pe_lc (own := [("k", 4)]) rfl sc_renamed_by.nd (pi_range1 rfl T.b_range (pa_cons (pv 2) pa_nil)) (blkOk_by (own := [("k", 4)]) (N := N_renamed_by) (sc := defScope s_renamed_by) (by decide +kernel)) (fun _ _ _ _ _ => (pg_name (i := 4) sc_renamed_by.nd rfl (.inl rfl))) (fun _ _ _ _ _ => pts_nil) (fun _ _ _ _ _ => (bmK K PySem.F.plainAttrs_list PySem.F.slot_list_index PySem.F.type_list_index (mt_indexK K) (pv 1) (pa_cons (pv 4) pa_nil)))))
      (pss_one (ps_ret (pe_lc (own := [("i", 5)]) rfl sc_renamed_by.nd (pi_range1 rfl T.b_range (pa_cons (pv 2) pa_nil)) (blkOk_by (own := [("i", 5)]) (N := N_renamed_by) (sc := defScope s_renamed_by) (by decide +kernel)) (fun _ _ _ _ _ => (pg_name (i := 5) sc_renamed_by.nd rfl (.inr rfl))) (fun _ _ _ _ _ => pts_nil) (fun _ _ _ _ _ => (pe_lc (own := [("j", 6)]) rfl sc_renamed_by.nd (pi_range1 rfl T.b_range (pa_cons (pv 2) pa_nil)) (blkOk_by (own := [("j", 6)]) (N := N_renamed_by) (sc := relS { kind := .function, names := [(PySem.Str.ofString ".0", PySem.NameKind.local), (PySem.Str.ofString "i", PySem.NameKind.cell), (PySem.Str.ofString "range", PySem.NameKind.globalImplicit), (PySem.Str.ofString "count", PySem.NameKind.free), (PySem.Str.ofString "form", PySem.NameKind.free), (PySem.Str.ofString "place", PySem.NameKind.free)], isGenerator := false, isCoroutine := false, more := [] } (defScope s_renamed_by)) (by decide +kernel)) (fun _ _ _ _ _ => (pg_name (i := 6) sc_renamed_by.nd rfl (.inl rfl))) (fun _ _ _ _ _ => pts_nil) (fun _ _ _ _ _ => (pe_ix (ixL K) (pe_ix (ixL K) (pv 0) (pe_ix (ixL K) (pv 3) (pv 5) (fun _ _ => rfl)) (fun _ _ => rfl)) (pe_ix (ixL K) (pv 3) (pv 6) (fun _ _ => rfl)) (fun _ _ => rfl)))))))))), ?_⟩
    refine q_asg (ev_lenFm (ev_var rfl) hM) fun H1 e1 => ?_
    refine q_asgL (xs := given ((n : Nat) : Int).toNat (fun _ => true) fun i => .int ((ps.idxOf i : Nat) : Int)) (el_lcR1 (n := (n : Int)) (fun _ => true) (fun i => .int ((ps.idxOf i : Nat) : Int)) (ea_cons (ev_var rfl) ea_nil) (by omega) (fun _ => rfl) (fun _ _ _ _ _ _ Q q => q _ (Ex.refl _)) (fun i H2 e2 hi _ => ?_)) fun pl H2 hpl e2 hpl2 => ?_
    · rw [← idx_nI]
      exact ev_index (ev_var rfl) (ev_var rfl) (hN.mono (e1.trans e2)) (by
        unfold nI
        exact List.mem_map.mpr ⟨i, hps.mem.mpr (by omega), rfl⟩)
    have hP : LI K H2 pl (nI ((List.range n).map ps.idxOf)) := sq_of (by
      rw [hpl2]
      unfold given nI
      rw [filt_all, Int.toNat_natCast, List.map_map, List.map_map]
      rfl)
    refine sr_ret (em_lcR (n := (n : Int)) (fun i => (List.range n).map (renF f ps i)) (ea_cons (ev_var rfl) ea_nil) (by omega) (fun _ => rfl) (fun i H3 e3 hi => er_of_evl ?_)) fun v H3 e3 ⟨p, hv, hO⟩ => ?_
    · have hi' : i < n := by omega
      have hP3 := hP.mono e3
      have hM3 := hM.mono ((e1.trans e2).trans e3)
      have := el_lcR1 (n := (n : Int)) (σ := (wipe [some (V.ref a), some (.ref b), some (.int (n : Int)), some (.ref pl), none, none, none] [5]).set 5 (some (.int (i : Int)))) (H := H3) (ta := tCons (tVar 2) tNil) (j := 6) (vs := [6]) (t := tYes) (te := tOp (rIxL K) (tOp (rIxL K) (tVar 0) (tOp (rIxL K) (tVar 3) (tVar 5))) (tOp (rIxL K) (tVar 3) (tVar 6))) (fun _ => true) (fun j => .int (renF f ps i j)) (ea_cons (ev_var rfl) ea_nil) (by omega) (fun _ => rfl) (fun _ _ _ _ _ _ Q q => q _ (Ex.refl _)) (fun j H4 e4 hj _ => by
        have hj' : j < n := by omega
        exact ev_fm (n := n) (f := f) (i := ps.idxOf i) (j := ps.idxOf j) (ev_var rfl) (ev_item (ev_var rfl) (ev_var rfl) (hP3.mono e4) (nI_get (mapr_get hi'))) (ev_item (ev_var rfl) (ev_var rfl) (hP3.mono e4) (nI_get (mapr_get hj'))) (hM3.mono e4) (hps.ix hi') (hps.ix hj'))
      unfold given at this
      rw [filt_all] at this
      rw [List.map_map]
      exact this
    · subst hv
      exact q H3 p ((e1.trans e2).trans e3) (hO.back (e1.trans e2))
theorem ok_renamed (T : Txt K mg) (G_must_form : FnOk P w K mg base (L2.CX P w) k T.f_must_form T.d_must_form ["form"] (sp_must_form K T.c_NoForm)) (G_renamed_by : FnOk P w K mg base CX0 k T.f_renamed_by T.d_renamed_by ["form", "names"] (sp_renamed_by K)) :
    FnOk P w K mg base (L2.CX P w) (k + 1) T.f_renamed T.d_renamed ["form", "names"] (sp_renamed K T.c_NoForm T.c_NoNames) := by
  refine T.F_renamed.okX sc_renamed (fun vs H Q E h => ?_) (fun cdv A outer s H vs Q E hr h => ?_)
  · obtain ⟨a, b, M, xs, rfl, _⟩ := h
    rfl
  · obtain ⟨a, b, M, xs, rfl, hM, hs, hN, h64, q1, q2⟩ := h
    refine ⟨_, (pss_cons (ps_expr (pe_call G_must_form hr rfl T.m_must_form T.F_must_form.kp T.b_must_form .nil (passes_call (takes_of rfl rfl rfl rfl) (fun _ _ _ _ h => h)) (pa_cons (pv 0) pa_nil)))
      (pss_cons (ps_if (pt_cmpR (neDK K hr.units) (pe_callB (sortedK K) rfl T.b_sorted (by decide +kernel) (pa_cons (pv 1) pa_nil)) (pe_listRg rfl rfl T.b_list (prg_1 rfl T.b_range (pe_callB (lenK K) rfl T.b_len PySem.boot_len (pa_cons (pv 0) pa_nil)))) (nomark _))
        (pss_one (ps_raise rfl (takes_of rfl rfl rfl rfl) (pmk_own PySem.F.excBase_ValueError T.x_NoNames.xn T.x_NoNames.g T.x_NoNames.kp (raises_own T.x_NoNames.bs T.x_NoNames.ty) rfl)))
        pss_nil)
      (pss_one (ps_ret (pe_call G_renamed_by hr rfl T.m_renamed_by T.F_renamed_by.kp T.b_renamed_by .nil pass0 (pa_cons (pv 0) (pa_cons (pv 1) pa_nil))))))), ?_⟩
    refine ⟨.ref a, rfl, a, M, rfl, hM, hs, fun H1 e1 => ⟨fun hF => ?_, fun hF => q1 hF H1 e1⟩⟩
    obtain ⟨n, f, rfl, hf⟩ := hF
    obtain ⟨q3, q4⟩ := q2 n f rfl hf
    have hn := hf.2.1
    dsimp only
    refine q_when (et_test (ev_isNotNames (ev_var rfl) (ev_lenFm (ev_var rfl) (hM.mono e1)) (hN.mono e1) h64 (by omega))) (fun hb H2 e2 => ?_) (fun hb H2 e2 => ?_)
    · exact q3 (of_dec_f (by simpa using hb)) H2 (e1.trans e2)
    · obtain ⟨ps, hps, rfl⟩ := isNames_iff.mp (of_dec (by simpa using hb))
      exact ⟨.ref a, rfl, .ref b, rfl, a, b, n, f, ps, rfl, hM.mono (e1.trans e2), hN.mono (e1.trans e2), hps, by omega, fun H3 p e3 hO => q4 ps hps rfl H3 p ((e1.trans e2).trans e3) (hO.back (e1.trans e2))⟩
theorem ok__law_some_names (T : Txt K mg) (G__law_cell : FnOk P w K mg base CX0 k T.f__law_cell T.d__law_cell ["script", "k"] (sp__law_cell K)) : FnOk P w K mg base CX0 (k + 1) T.f__law_some_names T.d__law_some_names ["script", "k", "count"] (sp__law_some_names K) := by
  refine T.F__law_some_names.ok sc__law_some_names (fun vs H Q E h => ?_) (fun cdv A outer s H vs Q E hr h => ?_)
  · obtain ⟨a, ns, k, n, rfl, _⟩ := h
    rfl
  · obtain ⟨a, ns, k, n, rfl, hL, hk, hn, q⟩ := h
    refine ⟨_, (pss_cons (ps_set (i := 3) sc__law_some_names.nd rfl (.inl rfl) (pe_listRg rfl rfl T.b_list (prg_1 rfl T.b_range (pv 2))))
      (pss_cons (ps_set (i := 4) sc__law_some_names.nd rfl (.inl rfl) (pe_lst pa_nil))
      (pss_cons (ps_for PassesOwn.never rfl (pi_range1 rfl T.b_range (pa_cons (pv 2) pa_nil)) (pg_name (i := 5) sc__law_some_names.nd rfl (.inl rfl))
        (pss_one (ps_expr (bmK K PySem.F.plainAttrs_list PySem.F.slot_list_append PySem.F.type_list_append mt_append (pv 4) (pa_cons (bmK K PySem.F.plainAttrs_list PySem.F.slot_list_pop PySem.F.type_list_pop mt_popAt (pv 3) (pa_cons (pe_op op_modN (pe_op op_fdivN (pe_call G__law_cell hr rfl T.m__law_cell T.F__law_cell.kp T.b__law_cell .nil pass0 (pa_cons (pv 0) (pa_cons (pe_op op_add (pv 1) (pv 5)) pa_nil))) (pe_op op_add pe_int (pv 5))) (pe_callB (lenK K) rfl T.b_len PySem.boot_len (pa_cons (pv 3) pa_nil))) pa_nil)) pa_nil)))))
      (pss_one (ps_ret (pv 4)))))), ?_⟩
    refine q_asgL (el_rangeL (ev_var rfl) (by omega)) fun l H1 hl e1 hl1 => ?_
    refine q_asgL (xs := []) (el_lst ea_nil (by simp)) fun p H2 hp e2 hp2 => ?_
    have hlp : l ≠ p := ne_of_none hl1 hp
    refine q_forR1 (n := (n : Int)) (ea_cons (ev_var rfl) ea_nil) (by omega) (fun j σ' H' => ∃ x5, ∃ ls ps : List Nat, σ' = [some (.ref a), some (.int (k : Int)), some (.int (n : Int)), some (.ref l), some (.ref p), x5] ∧ Ex H H' ∧ H' l = some (.lst ((nI ls).map V.int)) ∧ H' p = some (.lst ((nI ps).map V.int)) ∧ ls.length + j = n ∧ ps.length = j ∧ (ps ++ ls).Perm (List.range n))
      (fun H3 e3 => ⟨_, List.range n, [], rfl, (e1.trans e2).trans e3, (e2.trans e3) _ _ hl1, (e3 _ _ hp2 : _), by simp, rfl, List.Perm.refl _⟩) (fun j σ' H' hj hP => ?_) (fun σ' H' hP => ?_)
    · obtain ⟨x5, ls, ps, rfl, eH, hll, hpp, hlen, hpl, hperm⟩ := hP
      have hls : 0 < ls.length := by omega
      have hidx : Ev (tOp (rI (fun _ j => j ≠ 0) fun i j => .int (i.fmod j)) (tOp (rI CDivN fun i j => .int (i.fdiv j)) (tCall (sp__law_cell K) [] E0 (tCons (tVar 0) (tCons (tOp (rI0 fun i j => .int (i + j)) (tVar 1) (tVar 5)) tNil))) (tOp (rI0 fun i j => .int (i + j)) (tC (.int 1)) (tVar 5))) (tCB (rLenS K) (tCons (tVar 3) tNil)))
          [some (.ref a), some (.int (k : Int)), some (.int (n : Int)), some (.ref l), some (.ref p), some (.int (j : Int))] H' (.int (cellV ns (k + j) / (1 + (j : Int)) % ((nI ls).length : Int))) :=
        ev_mod (ev_div (ev_cv (j := k + j) (hL.mono eH) (ea_cons (ev_var rfl) (ea_cons (ev_op (ev_var rfl) (ev_var rfl) rv_I0) ea_nil)) (by omega)) (ev_op ev_c (ev_var rfl) rv_I0) (by omega) (by omega)) (ev_lenLI (ev_var rfl) (sq_of hll)) (by rw [nI_len]; omega)
      rw [nI_len] at hidx
      obtain ⟨i, hi⟩ : ∃ i : Nat, cellV ns (k + j) / (1 + (j : Int)) % (ls.length : Int) = (i : Int) := ⟨(cellV ns (k + j) / (1 + (j : Int)) % (ls.length : Int)).toNat, by have := Int.emod_nonneg (cellV ns (k + j) / (1 + (j : Int))) (show (ls.length : Int) ≠ 0 by omega); omega⟩
      have hil : i < ls.length := by have := Int.emod_lt_of_pos (cellV ns (k + j) / (1 + (j : Int))) (show (0 : Int) < ls.length by omega); omega
      rw [hi] at hidx
      -- names.append(left.pop(i))
      refine ⟨.ref p, rfl, .inl ⟨rfl, _, sq_of hpp⟩, .ref l, rfl, .inl ⟨rfl, _, sq_of hll⟩, hidx H' (Ex.refl _) _ fun H3 e3 => ?_⟩
      have hll3 := e3 _ _ hll
      have hpp3 := e3 _ _ hpp
      refine ⟨l, (nI ls).map V.int, (i : Int), i, .int ((ls[i] : Nat) : Int), rfl, rfl, hll3, by omega, by omega, seqIx (by rw [List.length_map, nI_len]; exact hil), by rw [List.getElem?_map, nI_get (List.getElem?_eq_getElem hil)]; rfl, ?_⟩
      refine ⟨p, (nI ps).map V.int, .int ((ls[i] : Nat) : Int), rfl, rfl, by rw [upd_ne hlp.symm]; exact hpp3, sz_lt (by rw [List.length_map, nI_len]; omega), ?_⟩
      refine ⟨_, ls.eraseIdx i, ps ++ [ls[i]], rfl, Ex.mut (Ex.mut (eH.trans e3) hl) (fresh_back e1 hp), ?_, ?_, ?_, by rw [List.length_append]; simp; omega, ?_⟩
      · rw [upd_ne hlp, upd_same, map_erase, nI_erase]
      · rw [upd_same]
        unfold nI
        rw [List.map_append, List.map_append]
        rfl
      · rw [List.length_eraseIdx_of_lt hil]
        omega
      · refine List.Perm.trans ?_ hperm
        rw [List.append_assoc]
        refine List.Perm.append_left ps ?_
        show (ls[i] :: ls.eraseIdx i).Perm ls
        exact perm_erase ls i hil
    · obtain ⟨x5, ls, ps, rfl, eH, hll, hpp, hlen, hpl, hperm⟩ := hP
      have : ls = [] := List.eq_nil_of_length_eq_zero (by rw [Int.toNat_natCast] at hlen; omega)
      subst this
      rw [List.append_nil] at hperm
      exact s_ret (ev_var rfl) fun H3 e3 => q ps H3 p (eH.trans e3) hperm ⟨fresh_back e1 hp, e3 _ _ hpp⟩
end
end AT

/-! ## all names, one behind the other; the first that lead from one form to another (plain Lean) -/
namespace AT
theorem perm_of_sub {α : Type} [BEq α] [LawfulBEq α] : ∀ {l l' : List α}, l.Nodup → (∀ x, x ∈ l → x ∈ l') → l'.length ≤ l.length → l.Perm l'
  | [], l', _, _, h => by
    have : l' = [] := List.eq_nil_of_length_eq_zero (by simpa using h)
    subst this
    exact List.Perm.refl _
  | a :: t, l', nd, hs, hl => by
    rw [List.nodup_cons] at nd
    have ha : a ∈ l' := hs a List.mem_cons_self
    have hp := List.perm_cons_erase ha
    refine List.Perm.trans (List.Perm.cons a ?_) hp.symm
    refine perm_of_sub nd.2 (fun x hx => ?_) ?_
    · have hxa : x ≠ a := fun e => nd.1 (e ▸ hx)
      exact (List.mem_erase_of_ne hxa).mpr (hs x (List.mem_cons_of_mem _ hx))
    · have := hp.length_eq
      simp only [List.length_cons] at this hl
      omega
def ext (n : Nat) (ps : List Nat) : List (List Nat) := ((List.range n).filter fun x => decide (x ∉ ps)).map fun x => ps ++ [x]
def allAt (n : Nat) : Nat → List (List Nat)
  | 0 => [[]]
  | t + 1 => (allAt n t).flatMap (ext n)
def comp (n : Nat) : Nat → List Nat → List (List Nat)
  | 0, ps => [ps]
  | d + 1, ps => (ext n ps).flatMap (comp n d)
theorem comp_add (n s : Nat) : ∀ (t : Nat) (ps : List Nat), comp n (t + s) ps = (comp n t ps).flatMap (comp n s)
  | 0, ps => by
    rw [Nat.zero_add]
    show comp n s ps = [ps].flatMap (comp n s)
    simp
  | t + 1, ps => by
    rw [show t + 1 + s = (t + s) + 1 by omega]
    show (ext n ps).flatMap (comp n (t + s)) = ((ext n ps).flatMap (comp n t)).flatMap (comp n s)
    rw [List.flatMap_assoc]
    congr 1
    funext q
    exact comp_add n s t q
theorem allAt_comp (n : Nat) : ∀ t, allAt n t = comp n t []
  | 0 => rfl
  | t + 1 => by
    rw [comp_add n 1 t []]
    show (allAt n t).flatMap (ext n) = _
    rw [allAt_comp n t]
    congr 1
    funext q
    show ext n q = (ext n q).flatMap fun x => [x]
    simp
/-- so many boxes named, each once -/
structure Part (n : Nat) (ps : List Nat) : Prop where
  nd : ps.Nodup
  lt : ∀ x, x ∈ ps → x < n
theorem Part.snoc {n x : Nat} {ps : List Nat} (h : Part n ps) (hx : x < n) (hn : x ∉ ps) : Part n (ps ++ [x]) := ⟨by
  rw [List.nodup_append]
  exact ⟨h.nd, by simp, fun a ha b hb => by
    have : b = x := by simpa using hb
    subst this
    exact fun e => hn (e ▸ ha)⟩, fun y hy => by
  rcases List.mem_append.mp hy with hy | hy
  · exact h.lt y hy
  · have : y = x := by simpa using hy
    omega⟩
theorem part_nil {n : Nat} : Part n [] := ⟨List.nodup_nil, fun _ h => by cases h⟩
theorem mem_ext {n : Nat} {ps qs : List Nat} : qs ∈ ext n ps ↔ ∃ x, x < n ∧ x ∉ ps ∧ qs = ps ++ [x] := by
  unfold ext
  simp only [List.mem_map, List.mem_filter, List.mem_range, decide_eq_true_eq]
  constructor
  · rintro ⟨x, ⟨h1, h2⟩, rfl⟩
    exact ⟨x, h1, h2, rfl⟩
  · rintro ⟨x, h1, h2, rfl⟩
    exact ⟨x, ⟨h1, h2⟩, rfl⟩
theorem comp_part {n : Nat} : ∀ {d : Nat} {ps qs : List Nat}, Part n ps → qs ∈ comp n d ps → Part n qs ∧ qs.length = ps.length + d ∧ ps <+: qs
  | 0, ps, qs, h, hq => by
    have : qs = ps := by simpa [comp] using hq
    subst this
    exact ⟨h, rfl, List.prefix_refl _⟩
  | d + 1, ps, qs, h, hq => by
    obtain ⟨rs, h1, h2⟩ := List.mem_flatMap.mp (show qs ∈ (ext n ps).flatMap (comp n d) from hq)
    obtain ⟨x, hx, hn, rfl⟩ := mem_ext.mp h1
    obtain ⟨q1, q2, q3⟩ := comp_part (h.snoc hx hn) h2
    exact ⟨q1, by rw [q2]; simp; omega, (List.prefix_append _ _).trans q3⟩
theorem findSome_fm {α β γ : Type} (p : α → Bool) (g : α → β) (h : β → Option γ) : ∀ l : List α, ((l.filter p).map g).findSome? h = l.findSome? fun x => if p x = true then h (g x) else none
  | [] => rfl
  | a :: r => by
    have ih := findSome_fm p g h r
    by_cases e : p a = true
    · rw [List.filter_cons_of_pos e, List.map_cons, List.findSome?_cons, List.findSome?_cons, if_pos e, ih]
    · rw [List.filter_cons_of_neg e, List.findSome?_cons, if_neg e, ih]
/-- the names lead from f to g -/
def Lead (n : Nat) (f g : Nat → Nat → Int) (qs : List Nat) : Prop := ∀ i j, i < n → j < n → g (qs.getD i 0) (qs.getD j 0) = f i j
/-- .. so far -/
def LeadTo (f g : Nat → Nat → Int) (ps : List Nat) : Prop := ∀ i j, i < ps.length → j < ps.length → g (ps.getD i 0) (ps.getD j 0) = f i j
def Goes (f g : Nat → Nat → Int) (ps : List Nat) (x : Nat) : Prop := ∀ k, k < ps.length → g (ps.getD k 0) x = f k ps.length
theorem getD_snoc_lt {ps : List Nat} {x i : Nat} (h : i < ps.length) : (ps ++ [x]).getD i 0 = ps.getD i 0 := by
  rw [List.getD_eq_getElem?_getD, List.getD_eq_getElem?_getD, List.getElem?_append_left h]
theorem getD_snoc_last {ps : List Nat} {x : Nat} : (ps ++ [x]).getD ps.length 0 = x := by
  rw [List.getD_eq_getElem?_getD, List.getElem?_append_right (Nat.le_refl _)]
  simp
theorem getD_lt {n i : Nat} {ps : List Nat} (h : Part n ps) (hi : i < ps.length) : ps.getD i 0 < n := by
  rw [List.getD_eq_getElem?_getD, List.getElem?_eq_getElem hi]
  exact h.lt _ (List.getElem_mem hi)
theorem leadTo_snoc {n x : Nat} {f g : Nat → Nat → Int} {ps : List Nat} (hf : Skew n f) (hg : Skew n g) (hP : Part n ps) (hl : ps.length < n) (hx : x < n) (h : LeadTo f g ps) (hG : Goes f g ps x) : LeadTo f g (ps ++ [x]) := fun i j hi hj => by
  rw [List.length_append, List.length_singleton] at hi hj
  by_cases h1 : i < ps.length
  · rw [getD_snoc_lt h1]
    by_cases h2 : j < ps.length
    · rw [getD_snoc_lt h2]
      exact h i j h1 h2
    · have : j = ps.length := by omega
      subst this
      rw [getD_snoc_last]
      exact hG i h1
  · have : i = ps.length := by omega
    subst this
    rw [getD_snoc_last]
    by_cases h2 : j < ps.length
    · rw [getD_snoc_lt h2, hg x _ hx (getD_lt hP h2), hG j h2, ← hf _ _ hl (by omega)]
    · have : j = ps.length := by omega
      subst this
      rw [getD_snoc_last]
      have a1 := hg x x hx hx
      have a2 := hf ps.length ps.length hl hl
      omega
theorem lead_prefix {n x : Nat} {f g : Nat → Nat → Int} {ps qs : List Nat} (hl : qs.length = n) (hp : ps ++ [x] <+: qs) (h : Lead n f g qs) : Goes f g ps x := fun k hk => by
  obtain ⟨r, rfl⟩ := hp
  have hlen : ps.length < n := by
    rw [← hl, List.length_append, List.length_append, List.length_singleton]
    omega
  have := h k ps.length (by omega) hlen
  have e1 : ((ps ++ [x]) ++ r).getD k 0 = ps.getD k 0 := by
    rw [List.getD_eq_getElem?_getD, List.getElem?_append_left (by simp; omega), ← List.getD_eq_getElem?_getD, getD_snoc_lt hk]
  have e2 : ((ps ++ [x]) ++ r).getD ps.length 0 = x := by
    rw [List.getD_eq_getElem?_getD, List.getElem?_append_left (by simp), ← List.getD_eq_getElem?_getD, getD_snoc_last]
  rw [e1, e2] at this
  exact this
/-- the first of the names behind ps that lead from f to g -/
noncomputable def firstN (n : Nat) (f g : Nat → Nat → Int) (d : Nat) (ps : List Nat) : Option (List Nat) := (comp n d ps).find? fun qs => dec (Lead n f g qs)
theorem firstN_zero {n : Nat} {f g : Nat → Nat → Int} {ps : List Nat} (hl : ps.length = n) (h : LeadTo f g ps) : firstN n f g 0 ps = some ps := by
  have : dec (Lead n f g ps) = true := dec_true fun i j hi hj => h i j (by omega) (by omega)
  show [ps].find? _ = _
  rw [List.find?_cons, this]
theorem firstN_succ {n d : Nat} {f g : Nat → Nat → Int} {ps : List Nat} (hP : Part n ps) (hl : ps.length + (d + 1) = n) : firstN n f g (d + 1) ps = (List.range n).findSome? fun x => if dec (x ∉ ps ∧ Goes f g ps x) = true then firstN n f g d (ps ++ [x]) else none := by
  show ((ext n ps).flatMap (comp n d)).find? _ = _
  rw [List.find?_flatMap]
  unfold ext
  rw [findSome_fm]
  have key : ∀ x ∈ List.range n, (if decide (x ∉ ps) = true then (comp n d (ps ++ [x])).find? (fun qs => dec (Lead n f g qs)) else none) = if dec (x ∉ ps ∧ Goes f g ps x) = true then firstN n f g d (ps ++ [x]) else none := fun x hx => by
    by_cases h1 : x ∉ ps
    · rw [if_pos (decide_eq_true h1)]
      by_cases h2 : Goes f g ps x
      · rw [if_pos (dec_true ⟨h1, h2⟩)]; rfl
      · rw [if_neg (fun z => h2 (of_dec z).2)]
        refine List.find?_eq_none.mpr fun qs hq => ?_
        obtain ⟨q1, q2, q3⟩ := comp_part (hP.snoc (List.mem_range.mp hx) h1) hq
        rw [dec_false fun hL => h2 (lead_prefix (by rw [q2]; simp; omega) q3 hL)]
        exact Bool.false_ne_true
    · rw [if_neg (by simpa using h1), if_neg (fun z => h1 (of_dec z).1)]
  exact findSome_congr key
where
  findSome_congr {α β : Type} {l : List α} {p q : α → Option β} (h : ∀ x ∈ l, p x = q x) : l.findSome? p = l.findSome? q := by
    induction l with
    | nil => rfl
    | cons a r ih =>
      rw [List.findSome?_cons, List.findSome?_cons, h a List.mem_cons_self, ih fun x hx => h x (List.mem_cons_of_mem _ hx)]
theorem findSome_none {α β : Type} {p : α → Option β} : ∀ {l : List α}, (∀ x ∈ l, p x = none) → l.findSome? p = none
  | [], _ => rfl
  | a :: r, h => by
    rw [List.findSome?_cons, h a List.mem_cons_self]
    exact findSome_none fun x hx => h x (List.mem_cons_of_mem _ hx)
/-- the i-th is the first that gives anything -/
theorem findSome_at {β : Type} {p : Nat → Option β} {b : β} : ∀ {n i s : Nat}, i < n → (∀ j, j < i → p (s + j) = none) → p (s + i) = some b → ((List.range' s n).findSome? p) = some b
  | 0, i, s, h, _, _ => absurd h (Nat.not_lt_zero _)
  | n + 1, 0, s, _, _, h => by
    rw [List.range'_succ, List.findSome?_cons, show p s = some b from h]
  | n + 1, i + 1, s, h, h1, h2 => by
    have h0 := h1 0 (by omega)
    rw [List.range'_succ, List.findSome?_cons, show p s = none from h0]
    exact findSome_at (n := n) (i := i) (s := s + 1) (by omega) (fun j hj => by have := h1 (j + 1) (by omega); rwa [show s + 1 + j = s + (j + 1) by omega]) (by rwa [show s + 1 + i = s + (i + 1) by omega])
theorem findSome_range {β : Type} {p : Nat → Option β} {b : β} {n i : Nat} (h : i < n) (h1 : ∀ j, j < i → p j = none) (h2 : p i = some b) : (List.range n).findSome? p = some b := by
  rw [List.range_eq_range']
  exact findSome_at (s := 0) h (fun j hj => by rw [Nat.zero_add]; exact h1 j hj) (by rw [Nat.zero_add]; exact h2)
end AT

/-! ## alike -/
namespace AT
open PySem PySem.Spec PyProof.Rows L2 Evl
def sp_goes_on (K : Frag) : Sp := fun vs H Q _ => ∃ (a b c : Addr) (n : Nat) (f g : Nat → Nat → Int) (ps : List Nat) (x : Nat), vs = [.ref a, .ref b, .ref c, .int (x : Int)] ∧ LLI K H a (Fm n f) ∧ LLI K H b (Fm n g) ∧ LI K H c (nI ps) ∧ Part n ps ∧ ps.length < n ∧ x < n ∧ n ≤ 100 ∧ ∀ H', Ex H H' → Q (.bl (dec (Goes f g ps x))) H'
/-- what comes back: None, or the list that was handed in, or a new one -/
def RNames (c : Addr) (o : Option (List Nat)) : R3 := fun H1 H2 v => match o with
  | none => v = .non
  | some qs => ∃ p, v = .ref p ∧ H2 p = some (.lst ((nI qs).map V.int)) ∧ (p = c ∨ H1 p = none)
def sp_first_names (K : Frag) (d : Nat) : Sp := fun vs H Q _ => ∃ (a b c : Addr) (n : Nat) (f g : Nat → Nat → Int) (ps : List Nat), vs = [.ref a, .ref b, .ref c] ∧ LLI K H a (Fm n f) ∧ LLI K H b (Fm n g) ∧ H c = some (.lst ((nI ps).map V.int)) ∧ Part n ps ∧ LeadTo f g ps ∧ ps.length + d = n ∧ n ≤ 100 ∧ Skew n f ∧ Skew n g ∧ ∀ v H', Ex H H' → RNames c (firstN n f g d ps) H H' v → Q v H'
/-- None, or a new list of the names -/
def RNew (o : Option (List Nat)) : R3 := fun H1 H2 v => match o with
  | none => v = .non
  | some qs => ∃ p, v = .ref p ∧ OLI H1 H2 p (nI qs)
theorem mon_RNew {o : Option (List Nat)} : Mon (RNew o) := by
  cases o with
  | none => exact ⟨fun _ h => h, fun _ h => h⟩
  | some qs => exact ⟨fun e ⟨p, h, q⟩ => ⟨p, h, q.mono e⟩, fun e ⟨p, h, q⟩ => ⟨p, h, q.back e⟩⟩
noncomputable def alikeV (n m : Nat) (f g : Nat → Nat → Int) : Option (List Nat) := if n = m then firstN n f g n [] else none
def sp_alike (K : Frag) : Sp := fun vs H Q _ => ∃ (a b : Addr) (n m : Nat) (f g : Nat → Nat → Int), vs = [.ref a, .ref b] ∧ LLI K H a (Fm n f) ∧ LLI K H b (Fm m g) ∧ FormOf n f ∧ FormOf m g ∧ ∀ v H', Ex H H' → RNew (alikeV n m f g) H H' v → Q v H'
theorem inV_nI (x : Nat) (ps : List Nat) : inV (.int (x : Int)) ((nI ps).map V.int) = decide (x ∈ ps) := by
  unfold inV nI
  induction ps with
  | nil => rfl
  | cons a r ih =>
    rw [List.map_cons, List.map_cons, List.any_cons, ih]
    show ((a : Int) == (x : Int) || decide (x ∈ r)) = decide (x ∈ a :: r)
    by_cases e : a = x
    · subst e; simp
    · have e1 : ((a : Int) == (x : Int)) = false := by simpa using (show ¬ (a : Int) = (x : Int) by omega)
      rw [e1, Bool.false_or]
      simp only [List.mem_cons]
      by_cases h : x ∈ r
      · simp [h]
      · have : ¬ x = a := fun z => e z.symm
        simp [h, this]
theorem flat_ints (xs : List Int) : (xs.map V.int).all flatV = true := by simp [flatV]
section
variable {P : Program} {w : World} {K : Frag} {mg : Str → Option Value} {base : Heap} {k : Nat}
theorem ev_nin {σ : St} {H : Hp} {c : Addr} {x : Nat} {ps : List Nat} {ta tb : TE} (ha : Ev ta σ H (.int (x : Int))) (hb : Ev tb σ H (.ref c)) (hL : LI K H c (nI ps)) : Ev (tOp (rIn K true) ta tb) σ H (.bl (decide (x ∉ ps))) :=
  ev_is (ev_op ha hb (rv_niL hL rfl (flat_ints _))) (by rw [inV_nI]; by_cases h : x ∈ ps <;> simp [h])
/-- xs + [x] -/
theorem el_snoc {σ : St} {H : Hp} {c : Addr} {x : Nat} {ps : List Nat} {ta tb : TE} (ha : Ev ta σ H (.ref c)) (hc : H c = some (.lst ((nI ps).map V.int))) (hb : Ev tb σ H (.int (x : Int))) (hl : ps.length ≤ 1000) : EvL (tOp rCat ta (tLst (tCons tb tNil))) σ H ((nI (ps ++ [x])).map V.int) := fun H1 e Q q =>
  ha H1 e _ fun H2 e2 => (el_lst (ea_cons hb ea_nil) (by show 1 ≤ 100000; decide) : EvL (tLst (tCons tb tNil)) σ H [.int (x : Int)]) H2 (e.trans e2) _ fun r H3 hr e3 hr3 => ⟨c, r, _, _, rfl, rfl, ((e.trans e2).trans e3) _ _ hc, hr3, by
    rw [List.length_map, nI_len]
    exact sz_of (by show ps.length + 1 ≤ 100000; omega), fun p hp => q p _ (fresh_back (e2.trans e3) hp) ((e2.trans e3).trans (Ex.new hp)) (by
      rw [upd_same]
      unfold nI
      rw [List.map_append, List.map_append]
      rfl)⟩
end
end AT

/-! ## all names, by the law -/
namespace AT
open PySem PySem.Spec PyProof.Rows L2 Evl
/-- a tracked list of tracked lists of ints -/
def TL (H : Hp) (a : Addr) (M : List (List Int)) : Prop := ∃ as : List Addr, H a = some (.lst (as.map V.ref)) ∧ Paired (fun x r => H x = some (.lst (r.map V.int))) as M
theorem TL.mono {H H' : Hp} {a : Addr} {M : List (List Int)} (e : Ex H H') (h : TL H a M) : TL H' a M := by
  obtain ⟨as, h1, h2⟩ := h
  exact ⟨as, e _ _ h1, paired_mono h2 fun _ _ q => e _ _ q⟩
theorem TL.lli {K : Frag} {H : Hp} {a : Addr} {M : List (List Int)} (h : TL H a M) : LLI K H a M := by
  obtain ⟨as, h1, h2⟩ := h
  exact ⟨as, sq_of h1, paired_mono h2 fun _ _ q => sq_of q⟩
theorem OLLI.tl {H0 H : Hp} {a : Addr} {M : List (List Int)} (h : OLLI H0 H a M) : TL H a M := by
  obtain ⟨as, _, h1, _, h2⟩ := h
  exact ⟨as, h1, paired_mono h2 fun _ _ q => q.2⟩
theorem ext_len (n : Nat) (ps : List Nat) : (ext n ps).length ≤ n := by
  unfold ext
  rw [List.length_map]
  exact filt_len _ n
theorem flat_len {α β : Type} {g : α → List β} {c : Nat} : ∀ l : List α, (∀ x, x ∈ l → (g x).length ≤ c) → (l.flatMap g).length ≤ l.length * c
  | [], _ => by simp
  | a :: r, h => by
    have h1 := h a List.mem_cons_self
    have h2 := flat_len r fun x hx => h x (List.mem_cons_of_mem _ hx)
    rw [List.flatMap_cons, List.length_append, List.length_cons, Nat.add_mul]
    omega
theorem allAt_len {n : Nat} (h : n ≤ 6) : ∀ t, t ≤ 6 → (allAt n t).length ≤ 6 ^ t
  | 0, _ => by simp [allAt]
  | t + 1, ht => by
    have h1 := flat_len (g := ext n) (c := 6) (allAt n t) fun x _ => Nat.le_trans (ext_len n x) h
    have h2 := allAt_len h t (by omega)
    show ((allAt n t).flatMap (ext n)).length ≤ 6 ^ (t + 1)
    rw [Nat.pow_succ]
    exact Nat.le_trans h1 (Nat.mul_le_mul_right 6 h2)
theorem pow6 {t : Nat} (h : t ≤ 6) : 6 ^ t ≤ 46656 := Nat.le_trans (Nat.pow_le_pow_right (by decide) h) (by decide)
theorem allAt_small {n t : Nat} (h : n ≤ 6) (ht : t ≤ 6) : (allAt n t).length ≤ 46656 := Nat.le_trans (allAt_len h t ht) (pow6 ht)
theorem mem_allAt {n t : Nat} {qs : List Nat} (h : qs ∈ allAt n t) : Part n qs ∧ qs.length = t := by
  rw [allAt_comp] at h
  obtain ⟨h1, h2, _⟩ := comp_part part_nil h
  exact ⟨h1, by rw [h2]; simp⟩
theorem Part.names {n : Nat} {qs : List Nat} (h : Part n qs) (hl : qs.length = n) : Names n qs := perm_of_sub h.nd (fun x hx => List.mem_range.mpr (h.lt x hx)) (by rw [List.length_range]; omega)
theorem names_allAt {n : Nat} {qs : List Nat} (h : qs ∈ allAt n n) : Names n qs := by
  obtain ⟨h1, h2⟩ := mem_allAt h
  exact h1.names h2
/-- renamed so it is the other one just where the names lead there -/
theorem lead_ren {n : Nat} {f g : Nat → Nat → Int} {qs : List Nat} (h : Names n qs) : Fm n (renF f qs) = Fm n g ↔ Lead n f g qs := by
  constructor
  · intro e i j hi hj
    obtain ⟨x, hx, hxn⟩ := h.lt hi
    obtain ⟨y, hy, hyn⟩ := h.lt hj
    have := (fm_inj e).2 x y hxn hyn
    unfold renF at this
    rw [h.ix_at hx, h.ix_at hy] at this
    rw [List.getD_eq_getElem?_getD, List.getD_eq_getElem?_getD, hx, hy]
    exact this.symm
  · intro hL
    refine fm_ext fun x y hx hy => ?_
    have := hL _ _ (h.ix hx) (h.ix hy)
    rw [List.getD_eq_getElem?_getD, List.getD_eq_getElem?_getD, h.at_ix hx, h.at_ix hy] at this
    exact this.symm
def sp__law_all_names : Sp := fun vs H Q _ => ∃ n : Nat, vs = [.int (n : Int)] ∧ n ≤ 6 ∧ ∀ H' p, Ex H H' → H p = none → TL H' p ((allAt n n).map nI) → Q (.ref p) H'
section
variable {P : Program} {w : World} {K : Frag} {mg : Str → Option Value} {base : Heap} {k : Nat}
/-- [names + [x] for x in range(n) if x not in names] -/
theorem er_ext {σ : St} {H : Hp} {c : Addr} {n : Nat} {ps : List Nat} {ta : TA} {tn : TE} {j : Nat} {ws : List Nat} (ha : EvA ta σ H [.int (n : Int)]) (hn : n ≤ 100) (hw : ∀ x, wipe ((wipe σ ws).set j (some x)) ws = wipe σ ws)
    (hc : H c = some (.lst ((nI ps).map V.int))) (hl : ps.length ≤ 1000) (hv : ∀ (i : Nat) H1, Ev tn ((wipe σ ws).set j (some (.int (i : Int)))) H1 (.ref c)) (hj : ∀ i : Nat, ((wipe σ ws).set j (some (.int (i : Int))))[j]? = some (some (.int (i : Int)))) :
    Er (tLc (iRng1 ta) (gName j) (tTest (tOp (rIn K true) (tVar j) tn)) (tOp rCat tn (tLst (tCons (tVar j) tNil))) ws) σ H (fun H1 H2 v => ∃ p, v = .ref p ∧ H1 p = none ∧ TL H2 p ((ext n ps).map nI)) := fun H1 e Q q => by
  have h := er_lcR (te := tOp rCat tn (tLst (tCons (tVar j) tNil))) (t := tTest (tOp (rIn K true) (tVar j) tn)) (fun i => decide (i ∉ ps)) (fun i => RL (nI (ps ++ [i]))) (fun i => mon'_RL) ha (by omega) hw
    (fun i H2 e2 _ => et_test (ev_nin (ev_var (hj i)) (hv i H2) (sq_of (e2 _ _ hc))))
    (fun i H2 e2 _ _ => er_of_evl (el_snoc (hv i H2) (e2 _ _ hc) (ev_var (hj i)) hl))
  refine h H1 e Q fun v H2 e2 ⟨p, vs, hv, hp, hp2, hP⟩ => q v H2 e2 ⟨p, hv, hp, ?_⟩
  rw [Int.toNat_natCast] at hP
  have key : ∀ {vs : List V} {idx : List Nat}, Paired (fun v i => RL (nI (ps ++ [i])) H1 H2 v) vs idx → ∃ as : List Addr, vs = as.map V.ref ∧ Paired (fun x r => H2 x = some (.lst (r.map V.int))) as ((idx.map fun x => ps ++ [x]).map nI) := fun {vs idx} hP => by
    induction hP with
    | nil => exact ⟨[], rfl, .nil⟩
    | cons r t ih =>
      obtain ⟨x, hx, h1, h2⟩ := r
      obtain ⟨as, ha, hb⟩ := ih
      subst hx; subst ha
      exact ⟨x :: as, rfl, .cons h2 hb⟩
  obtain ⟨as, ha, hb⟩ := key hP
  subst ha
  exact ⟨as, hp2, hb⟩
end
end AT

/-! ## names in order -/
namespace AT
open PySem
theorem ltI_self : ∀ xs : List Int, ltI xs xs = false
  | [] => rfl
  | x :: xs => by
    show PySem.W.listLt (x :: xs) (x :: xs) = false
    rw [PySem.W.listLt, if_pos rfl]
    exact ltI_self xs
theorem ltI_pre (ps a b : List Int) : ltI (ps ++ a) (ps ++ b) = ltI a b := by
  induction ps with
  | nil => rfl
  | cons p ps ih =>
    show PySem.W.listLt (p :: (ps ++ a)) (p :: (ps ++ b)) = _
    rw [PySem.W.listLt, if_pos rfl]
    exact ih
theorem ltI_asym : ∀ {a b : List Int}, ltI a b = true → ltI b a = false
  | [], [], h => by cases h
  | [], _ :: _, _ => rfl
  | _ :: _, [], h => by cases h
  | x :: xs, y :: ys, h => by
    have h : PySem.W.listLt (x :: xs) (y :: ys) = true := h
    show PySem.W.listLt (y :: ys) (x :: xs) = false
    rw [PySem.W.listLt] at h ⊢
    by_cases e : x = y
    · rw [if_pos e] at h
      rw [if_pos e.symm]
      exact ltI_asym h
    · rw [if_neg e] at h
      rw [if_neg (fun z => e z.symm)]
      have h : decide (x < y) = true := h
      show decide (y < x) = false
      rw [decide_eq_true_eq] at h
      rw [decide_eq_false_iff_not]
      omega
/-- those that go on from ps stand in order -/
theorem comp_sorted {n : Nat} : ∀ (d : Nat) {ps : List Nat}, Part n ps → (comp n d ps).Pairwise fun a b => ltI (nI a) (nI b) = true
  | 0, ps, _ => List.pairwise_singleton _ _
  | d + 1, ps, hp => by
    show ((ext n ps).flatMap (comp n d)).Pairwise _
    rw [List.pairwise_flatMap]
    refine ⟨fun qs hqs => ?_, ?_⟩
    · obtain ⟨x, hx, hn, rfl⟩ := mem_ext.mp hqs
      exact comp_sorted d (hp.snoc hx hn)
    · unfold ext
      rw [List.pairwise_map]
      have h1 : ((List.range n).filter fun x => decide (x ∉ ps)).Pairwise (· < ·) := List.Pairwise.filter _ List.pairwise_lt_range
      refine List.Pairwise.imp_of_mem (fun {x y} hx hy hlt => ?_) h1
      intro a ha b hb
      rw [List.mem_filter, List.mem_range, decide_eq_true_eq] at hx hy
      obtain ⟨s, rfl⟩ := (comp_part (hp.snoc hx.1 hx.2) ha).2.2
      obtain ⟨t, rfl⟩ := (comp_part (hp.snoc hy.1 hy.2) hb).2.2
      have e1 : nI (ps ++ [x] ++ s) = nI ps ++ ((x : Int) :: nI s) := by unfold nI; simp
      have e2 : nI (ps ++ [y] ++ t) = nI ps ++ ((y : Int) :: nI t) := by unfold nI; simp
      rw [e1, e2, ltI_pre]
      show PySem.W.listLt ((x : Int) :: nI s) ((y : Int) :: nI t) = true
      rw [PySem.W.listLt, if_neg (by omega)]
      show decide ((x : Int) < (y : Int)) = true
      rw [decide_eq_true_eq]
      omega
theorem find_sorted {α : Type} {R : α → α → Prop} {p : α → Bool} : ∀ {l : List α} {x y : α}, l.Pairwise R → l.find? p = some x → y ∈ l → p y = true → x = y ∨ R x y
  | [], _, _, _, h, _, _ => by cases h
  | a :: l, x, y, hR, h, hy, hp => by
    rw [List.pairwise_cons] at hR
    rw [List.find?_cons] at h
    by_cases ha : p a = true
    · rw [ha] at h
      have h : some a = some x := h
      cases h
      rcases List.mem_cons.mp hy with rfl | hy
      · exact .inl rfl
      · exact .inr (hR.1 y hy)
    · have ha' : p a = false := by simpa using ha
      rw [ha'] at h
      rcases List.mem_cons.mp hy with rfl | hy
      · exact absurd hp ha
      · exact find_sorted hR.2 h hy hp
theorem names_part {n : Nat} {ps : List Nat} (h : Names n ps) : Part n ps := ⟨h.nd, fun x hx => h.mem.mp hx⟩
theorem mem_comp_pre {n : Nat} : ∀ (d : Nat) {ps qs : List Nat}, Part n qs → ps <+: qs → qs.length = ps.length + d → qs ∈ comp n d ps
  | 0, ps, qs, _, hp, hl => by
    have e : ps = qs := hp.eq_of_length (by omega)
    subst e
    exact List.mem_singleton.mpr rfl
  | d + 1, ps, qs, hq, ⟨t, ht⟩, hl => by
    show qs ∈ (ext n ps).flatMap (comp n d)
    cases t with
    | nil =>
      rw [List.append_nil] at ht
      rw [ht] at hl
      omega
    | cons x t =>
      have hx : x ∈ qs := by rw [← ht]; simp
      have hnd : (ps ++ x :: t).Nodup := by rw [ht]; exact hq.nd
      have hxp : x ∉ ps := fun z => by
        rw [List.nodup_append] at hnd
        exact hnd.2.2 x z x List.mem_cons_self rfl
      exact List.mem_flatMap.mpr ⟨ps ++ [x], mem_ext.mpr ⟨x, hq.lt x hx, hxp, rfl⟩, mem_comp_pre d hq ⟨t, by rw [← ht]; simp⟩ (by simp; omega)⟩
theorem mem_comp {n : Nat} {ps : List Nat} (h : Names n ps) : ps ∈ comp n n [] := mem_comp_pre n (names_part h) ⟨ps, rfl⟩ (by rw [h.len]; simp)
theorem names_getD {n i : Nat} {ps : List Nat} (h : Names n ps) (hi : i < n) : ps.getD i 0 < n ∧ ps.idxOf (ps.getD i 0) = i := by
  obtain ⟨x, h1, h2⟩ := h.lt hi
  have e : ps.getD i 0 = x := by rw [List.getD_eq_getElem?_getD, h1]; rfl
  rw [e]
  exact ⟨h2, h.ix_at h1⟩
theorem lead_self {n : Nat} {f : Nat → Nat → Int} {ps : List Nat} (h : Names n ps) : Lead n f (renF f ps) ps := fun i j hi hj => by
  unfold renF
  rw [(names_getD h hi).2, (names_getD h hj).2]
/-- the names the other way -/
def invN (n : Nat) (ps : List Nat) : List Nat := (List.range n).map fun i => ps.idxOf i
theorem idx_inj {n i j : Nat} {ps : List Nat} (h : Names n ps) (hi : i < n) (hj : j < n) (e : ps.idxOf i = ps.idxOf j) : i = j := by
  have h1 := h.at_ix hi
  have h2 := h.at_ix hj
  rw [e, h2] at h1
  injection h1 with h1
  exact h1.symm
theorem invN_names {n : Nat} {ps : List Nat} (h : Names n ps) : Names n (invN n ps) := by
  refine perm_of_sub ?_ (fun x hx => ?_) (by unfold invN; simp)
  · unfold invN
    rw [List.Nodup, List.pairwise_map]
    refine List.Pairwise.imp_of_mem (fun {i j} hi hj hne e => hne (idx_inj h (List.mem_range.mp hi) (List.mem_range.mp hj) e)) List.nodup_range
  · obtain ⟨i, hi, rfl⟩ := List.mem_map.mp hx
    exact List.mem_range.mpr (h.ix (List.mem_range.mp hi))
theorem invN_getD {n i : Nat} {ps : List Nat} (hi : i < n) : (invN n ps).getD i 0 = ps.idxOf i := by
  unfold invN
  rw [List.getD_eq_getElem?_getD, List.getElem?_map, List.getElem?_range hi]
  rfl
theorem lead_inv {n : Nat} {f : Nat → Nat → Int} {ps : List Nat} : Lead n (renF f ps) f (invN n ps) := fun i j hi hj => by
  rw [invN_getD hi, invN_getD hj]
  rfl
/-- alike finds the first names that lead -/
theorem alikeV_some {n : Nat} {f g : Nat → Nat → Int} {ps : List Nat} (h : Names n ps) (hl : Lead n f g ps) : ∃ qs, alikeV n n f g = some qs ∧ Names n qs ∧ Lead n f g qs ∧ ltI (nI ps) (nI qs) = false := by
  unfold alikeV firstN
  rw [if_pos rfl]
  cases e : (comp n n []).find? fun qs => dec (Lead n f g qs) with
  | none =>
    have := List.find?_eq_none.mp e ps (mem_comp h)
    exact absurd (dec_true hl) this
  | some qs =>
    have h1 := List.mem_of_find?_eq_some e
    have h2 := List.find?_some e
    have hc := comp_part part_nil h1
    refine ⟨qs, rfl, Part.names hc.1 (by have := hc.2.1; simpa using this), of_dec h2, ?_⟩
    rcases find_sorted (comp_sorted n part_nil) e (mem_comp h) (dec_true hl) with rfl | h
    · exact ltI_self _
    · exact ltI_asym h
/-! ### turning and renaming -/
theorem renF_ok {n : Nat} {f : Nat → Nat → Int} {ps : List Nat} (hf : FormOf n f) (h : Names n ps) : FormOf n (renF f ps) := ⟨hf.1, hf.2.1, fun i j hi hj => hf.2.2 _ _ (h.ix hi) (h.ix hj)⟩
theorem turn_ren {n b : Nat} {f : Nat → Nat → Int} {ps : List Nat} (h : Names n ps) (hb : b < n) : Fm n (turnF (renF f ps) (ps.getD b 0)) = Fm n (renF (turnF f b) ps) := fm_ext fun i j hi hj => by
  have hq := names_getD h hb
  have e : ∀ {x}, x < n → (x = ps.getD b 0 ↔ ps.idxOf x = b) := fun {x} hx => ⟨fun z => by rw [z]; exact hq.2, fun z => idx_inj h hx hq.1 (by rw [z, hq.2])⟩
  have l : turnF (renF f ps) (ps.getD b 0) i j = if i = ps.getD b 0 ∨ j = ps.getD b 0 then 0 - f (ps.idxOf i) (ps.idxOf j) else f (ps.idxOf i) (ps.idxOf j) + thr (f (ps.idxOf i) (ps.idxOf (ps.getD b 0))) (f (ps.idxOf (ps.getD b 0)) (ps.idxOf j)) := rfl
  have r : renF (turnF f b) ps i j = if ps.idxOf i = b ∨ ps.idxOf j = b then 0 - f (ps.idxOf i) (ps.idxOf j) else f (ps.idxOf i) (ps.idxOf j) + thr (f (ps.idxOf i) b) (f b (ps.idxOf j)) := rfl
  rw [l, r, hq.2]
  by_cases q : i = ps.getD b 0 ∨ j = ps.getD b 0
  · have q2 : ps.idxOf i = b ∨ ps.idxOf j = b := q.elim (fun z => .inl ((e hi).mp z)) fun z => .inr ((e hj).mp z)
    rw [if_pos q, if_pos q2]
  · have q2 : ¬ (ps.idxOf i = b ∨ ps.idxOf j = b) := fun z => q (z.elim (fun z => .inl ((e hi).mpr z)) fun z => .inr ((e hj).mpr z))
    rw [if_neg q, if_neg q2]
theorem thr_zero_r (a : Int) : thr a 0 = 0 := by
  unfold thr
  rw [if_neg (by omega), if_neg (by omega)]
theorem thr_zero_l (a : Int) : thr 0 a = 0 := by
  unfold thr
  rw [if_neg (by omega), if_neg (by omega)]
theorem turn_col {b o i : Nat} {f : Nat → Nat → Int} (hne : b ≠ o) (h1 : f b o = 0) (h2 : f o b = 0) : turnF f b i o = f i o ∧ turnF f b o i = f o i := by
  unfold turnF
  constructor
  · by_cases q : i = b
    · rw [if_pos (.inl q), q, h1]; rfl
    · rw [if_neg (by rintro (z | z); exact q z; exact hne z.symm), h1, thr_zero_r]; omega
  · by_cases q : i = b
    · rw [if_pos (.inr q), q, h2]; rfl
    · rw [if_neg (by rintro (z | z); exact hne z.symm; exact q z), h2, thr_zero_l]; omega
theorem turn_comm {n b o : Nat} {f : Nat → Nat → Int} (h1 : f b o = 0) (h2 : f o b = 0) : Fm n (turnF (turnF f b) o) = Fm n (turnF (turnF f o) b) := by
  by_cases hne : b = o
  · rw [hne]
  · refine fm_ext fun i j _ _ => ?_
    have c1 := fun i => turn_col (i := i) hne h1 h2
    have c2 := fun i => turn_col (i := i) (Ne.symm hne) h2 h1
    have l : turnF (turnF f b) o i j = if i = o ∨ j = o then 0 - turnF f b i j else turnF f b i j + thr (turnF f b i o) (turnF f b o j) := rfl
    have r : turnF (turnF f o) b i j = if i = b ∨ j = b then 0 - turnF f o i j else turnF f o i j + thr (turnF f o i b) (turnF f o b j) := rfl
    rw [l, r, (c1 i).1, (c1 j).2, (c2 i).1, (c2 j).2]
    by_cases p : i = o ∨ j = o
    · rw [if_pos p]
      by_cases q : i = b ∨ j = b
      · rw [if_pos q]
        unfold turnF
        rw [if_pos q, if_pos p]
      · rw [if_neg q]
        unfold turnF
        rw [if_neg q, if_pos p]
        have : thr (f i b) (f b j) = 0 := by
          rcases p with rfl | rfl
          · rw [h2, thr_zero_l]
          · rw [h1, thr_zero_r]
        omega
    · rw [if_neg p]
      by_cases q : i = b ∨ j = b
      · rw [if_pos q]
        unfold turnF
        rw [if_pos q, if_neg p]
        have : thr (f i o) (f o j) = 0 := by
          rcases q with rfl | rfl
          · rw [h1, thr_zero_l]
          · rw [h2, thr_zero_r]
        omega
      · rw [if_neg q]
        unfold turnF
        rw [if_neg q, if_neg p]
        omega
theorem nat9 {a b : Int} (h1 : a.natAbs ≤ 9) (h2 : b.natAbs ≤ 9) : (a * b).natAbs ≤ 81 := by
  rw [Int.natAbs_mul]
  exact Nat.mul_le_mul h1 h2
theorem thr9 {a b : Int} (h1 : a.natAbs ≤ 9) (h2 : b.natAbs ≤ 9) : (thr a b).natAbs ≤ 81 := by
  have := nat9 h1 h2
  unfold thr
  split
  · exact this
  · split
    · omega
    · omega
theorem turn9 {n k : Nat} {f : Nat → Nat → Int} (hf : FormOf n f) (hk : k < n) (h9 : ∀ i j, i < n → j < n → f i j ≤ 9) : FormOf n (turnF f k) := ⟨hf.1, hf.2.1, fun i j hi hj => ⟨turnF_skew hf.skew hk i j hi hj, by
  have hb : ∀ i j, i < n → j < n → (f i j).natAbs ≤ 9 := fun i j hi hj => by
    have h1 := h9 i j hi hj
    have h2 := h9 j i hj hi
    have h3 := (hf.2.2 i j hi hj).1
    omega
  have h1 := hb i j hi hj
  have h2 := thr9 (hb i k hi hk) (hb k j hk hj)
  unfold turnF
  split <;> omega⟩⟩
end AT

/-! ## renamed, alike: their promises at forms -/
namespace AT
open PySem PySem.Spec PyProof.Rows L2 Evl
section
variable {P : Program} {w : World} {K : Frag} {H : Hp} {σ : St} {ta tb t1 t2 : TE} {C1 C2 : Addr} {R : R3} {E : XK}
theorem ev_opR1 {r : R2} {y z : V} (h1 : Er ta σ H R) (h2 : Ev tb σ H y) (hr : ∀ v H1 H2, Ex H H1 → Ex H1 H2 → R H1 H2 v → RV r v y H2 z) : Ev (tOp r ta tb) σ H z := fun H1 e Q q =>
  h1 H1 e _ fun v H2 e2 hv => h2 H2 (e.trans e2) _ fun H3 e3 => hr v H1 H2 e e2 hv H3 e3 Q fun H4 e4 => q H4 ((e2.trans e3).trans e4)
theorem ev_opR2 {r : R2} {x z : V} (h1 : Ev ta σ H x) (h2 : Er tb σ H R) (hr : ∀ v H1 H2, Ex H H1 → Ex H1 H2 → R H1 H2 v → RV r x v H2 z) : Ev (tOp r ta tb) σ H z := fun H1 e Q q =>
  h1 H1 e _ fun H2 e2 => h2 H2 (e.trans e2) _ fun v H3 e3 hv => hr v H2 H3 (e.trans e2) e3 hv H3 (Ex.refl _) Q fun H4 e4 => q H4 ((e2.trans e3).trans e4)
theorem renF_ext {n : Nat} {f g : Nat → Nat → Int} {ps : List Nat} (h : Names n ps) (hf : ∀ i j, i < n → j < n → f i j = g i j) : Fm n (renF f ps) = Fm n (renF g ps) := fm_ext fun i j hi hj => hf _ _ (h.ix hi) (h.ix hj)
theorem spr_renamed {a b : Addr} {n : Nat} {f : Nat → Nat → Int} {ps : List Nat} (hf : FormOf n f) (hps : Names n ps) (hM : LLI K H a (Fm n f)) (hN : LI K H b (nI ps)) : SpR (sp_renamed K C1 C2) [.ref a, .ref b] H (RM (Fm n (renF f ps))) := fun H1 e1 Q q E => by
  refine ⟨a, b, _, _, rfl, hM.mono e1, small_fm (by have := hf.2.1; omega), hN.mono e1, by rw [nI_len, hps.len]; have := hf.2.1; omega, fun hF => absurd (fmI hf) hF, fun n' f' e hf' => ?_⟩
  obtain ⟨rfl, ee⟩ := fm_inj e
  refine ⟨fun z => absurd (isNames_iff.mpr ⟨ps, hps, rfl⟩) z, fun qs hqs eqs H' p e hO => q _ H' e ⟨p, rfl, ?_⟩⟩
  have : ps = qs := List.map_inj_right (f := fun x : Nat => (x : Int)) (fun a b h => by omega) |>.mp eqs
  subst this
  rw [renF_ext hps ee]
  exact hO
theorem er_renamedR2 {n : Nat} {f : Nat → Nat → Int} {ps : List Nat} (hf : FormOf n f) (hps : Names n ps) (h1 : Er t1 σ H (RM (Fm n f))) (h2 : Er t2 σ H (RL (nI ps))) : Er (tCall (sp_renamed K C1 C2) [] E (tCons t1 (tCons t2 tNil))) σ H (RM (Fm n (renF f ps))) :=
  er_callR2 mon_RM h1 h2 fun v1 v2 G1 G2 G3 g1 g2 g3 ⟨c, hc, hOc⟩ ⟨d, hd, hOd⟩ => by
    subst hc; subst hd
    exact spr_renamed hf hps (hOc.lli.mono g3) (sq_of hOd.2)
theorem spr_ren {a b : Addr} {n : Nat} {f : Nat → Nat → Int} {ps : List Nat} (hn : n ≤ 100) (hps : Names n ps) (hM : LLI K H a (Fm n f)) (hN : LI K H b (nI ps)) : SpR (sp__law_renamed K) [.ref a, .ref b] H (RM (Fm n (renF f ps))) := fun H1 e1 Q q E =>
  ⟨a, b, n, f, ps, rfl, hM.mono e1, hN.mono e1, hps, hn, fun H' p e hO => q _ H' e ⟨p, rfl, hO⟩⟩
theorem er_renR {n : Nat} {b : Addr} {f : Nat → Nat → Int} {ps : List Nat} (hn : n ≤ 100) (hps : Names n ps) (h1 : Er t1 σ H (RM (Fm n f))) (h2 : Ev t2 σ H (.ref b)) (hN : LI K H b (nI ps)) : Er (tCall (sp__law_renamed K) [] E (tCons t1 (tCons t2 tNil))) σ H (RM (Fm n (renF f ps))) :=
  er_callR1 mon_RM h1 (ea_cons h2 ea_nil) fun v1 G1 G2 G3 g1 g2 g3 ⟨c, hc, hOc⟩ => by
    subst hc
    exact spr_ren hn hps (hOc.lli.mono g3) (hN.mono ((g1.trans g2).trans g3))
theorem er_ren {n : Nat} {a b : Addr} {f : Nat → Nat → Int} {ps : List Nat} (hn : n ≤ 100) (hps : Names n ps) (h1 : Ev t1 σ H (.ref a)) (hM : LLI K H a (Fm n f)) (h2 : Ev t2 σ H (.ref b)) (hN : LI K H b (nI ps)) : Er (tCall (sp__law_renamed K) [] E (tCons t1 (tCons t2 tNil))) σ H (RM (Fm n (renF f ps))) :=
  er_call mon_RM (ea_cons h1 (ea_cons h2 ea_nil)) (spr_ren hn hps hM hN)
theorem ev_likeRR {M N : List (List Int)} (h1 : Er t1 σ H (RM M)) (h2 : Er t2 σ H (RM N)) (hs : SmallM M) : Ev (tCall (sp__law_like K) [] E (tCons t1 (tCons t2 tNil))) σ H (.bl (decide (M = N))) :=
  ev_callR2 h1 h2 fun v1 v2 G1 G2 G3 g1 g2 g3 ⟨c, hc, hOc⟩ ⟨d, hd, hOd⟩ => by
    subst hc; subst hd
    exact spv_like (hOc.tll.mono g3) hOd.lli hs
end
end AT

/-! ## least names -/
namespace AT
open PySem
def leastM (n : Nat) (f : Nat → Nat → Int) : Mat := minL ((allAt n n).map fun ps => Fm n (renF f ps))
theorem allAt_ne {n : Nat} : allAt n n ≠ [] := fun e => by
  have : List.range n ∈ allAt n n := by rw [allAt_comp]; exact mem_comp (List.Perm.refl _)
  rw [e] at this
  cases this
theorem mem_allAt_iff {n : Nat} {ps : List Nat} : ps ∈ allAt n n ↔ Names n ps := ⟨names_allAt, fun h => by rw [allAt_comp]; exact mem_comp h⟩
theorem least_mem (n : Nat) (f : Nat → Nat → Int) : ∃ ps, Names n ps ∧ leastM n f = Fm n (renF f ps) := by
  have h : leastM n f ∈ (allAt n n).map fun ps => Fm n (renF f ps) := minL_mem (by simpa using allAt_ne)
  obtain ⟨ps, h1, h2⟩ := List.mem_map.mp h
  exact ⟨ps, names_allAt h1, h2.symm⟩
/-- names, then names -/
def thenN (n : Nat) (ps qs : List Nat) : List Nat := (List.range n).map fun t => qs.getD (ps.getD t 0) 0
theorem thenN_getD {n t : Nat} {ps qs : List Nat} (ht : t < n) : (thenN n ps qs).getD t 0 = qs.getD (ps.getD t 0) 0 := by
  unfold thenN
  rw [List.getD_eq_getElem?_getD, List.getElem?_map, List.getElem?_range ht]
  rfl
theorem names_inj {n i j : Nat} {ps : List Nat} (h : Names n ps) (hi : i < n) (hj : j < n) (e : ps.getD i 0 = ps.getD j 0) : i = j := by
  have h1 := (names_getD h hi).2
  rw [e, (names_getD h hj).2] at h1
  exact h1.symm
theorem thenN_names {n : Nat} {ps qs : List Nat} (h : Names n ps) (h2 : Names n qs) : Names n (thenN n ps qs) := by
  refine perm_of_sub ?_ (fun x hx => ?_) (by unfold thenN; simp)
  · unfold thenN
    rw [List.Nodup, List.pairwise_map]
    refine List.Pairwise.imp_of_mem (fun {i j} hi hj hne e => hne ?_) List.nodup_range
    have hi := List.mem_range.mp hi
    have hj := List.mem_range.mp hj
    exact names_inj h hi hj (names_inj h2 (names_getD h hi).1 (names_getD h hj).1 e)
  · obtain ⟨i, hi, rfl⟩ := List.mem_map.mp hx
    exact List.mem_range.mpr (names_getD h2 (names_getD h (List.mem_range.mp hi)).1).1
theorem names_at_ix {n i : Nat} {ps : List Nat} (h : Names n ps) (hi : i < n) : ps.getD (ps.idxOf i) 0 = i := by
  rw [List.getD_eq_getElem?_getD, h.at_ix hi]
  rfl
theorem thenN_ix {n i : Nat} {ps qs : List Nat} (h : Names n ps) (h2 : Names n qs) (hi : i < n) : (thenN n ps qs).idxOf i = ps.idxOf (qs.idxOf i) := by
  have ht := h.ix (h2.ix hi)
  have e : (thenN n ps qs).getD (ps.idxOf (qs.idxOf i)) 0 = i := by rw [thenN_getD ht, names_at_ix h (h2.ix hi), names_at_ix h2 hi]
  have := (names_getD (thenN_names h h2) ht).2
  rw [e] at this
  exact this
theorem ren_ren {n : Nat} {f : Nat → Nat → Int} {ps qs : List Nat} (h : Names n ps) (h2 : Names n qs) : Fm n (renF (renF f ps) qs) = Fm n (renF f (thenN n ps qs)) := fm_ext fun i j hi hj => by
  show f (ps.idxOf (qs.idxOf i)) (ps.idxOf (qs.idxOf j)) = f ((thenN n ps qs).idxOf i) ((thenN n ps qs).idxOf j)
  rw [thenN_ix h h2 hi, thenN_ix h h2 hj]
theorem inv_ix {n i : Nat} {ps : List Nat} (h : Names n ps) (hi : i < n) : (invN n ps).idxOf i = ps.getD i 0 := by
  have hq := names_getD h hi
  have e : (invN n ps).getD (ps.getD i 0) 0 = i := by rw [invN_getD hq.1, hq.2]
  have := (names_getD (invN_names h) hq.1).2
  rw [e] at this
  exact this
theorem least_ren {n : Nat} {f : Nat → Nat → Int} {ps : List Nat} (h : Names n ps) : leastM n (renF f ps) = leastM n f := by
  refine minL_eq fun y => ⟨fun hy => ?_, fun hy => ?_⟩
  · obtain ⟨qs, h1, rfl⟩ := List.mem_map.mp hy
    exact List.mem_map.mpr ⟨thenN n ps qs, mem_allAt_iff.mpr (thenN_names h (names_allAt h1)), (ren_ren h (names_allAt h1)).symm⟩
  · obtain ⟨rs, h1, rfl⟩ := List.mem_map.mp hy
    have hr := names_allAt h1
    have hi := invN_names h
    refine List.mem_map.mpr ⟨thenN n (invN n ps) rs, mem_allAt_iff.mpr (thenN_names hi hr), ?_⟩
    refine fm_ext fun i j hi' hj' => ?_
    show f (ps.idxOf ((thenN n (invN n ps) rs).idxOf i)) (ps.idxOf ((thenN n (invN n ps) rs).idxOf j)) = f (rs.idxOf i) (rs.idxOf j)
    rw [thenN_ix hi hr hi', thenN_ix hi hr hj', inv_ix h (hr.ix hi'), inv_ix h (hr.ix hj'), (names_getD h (hr.ix hi')).2, (names_getD h (hr.ix hj')).2]
theorem leastM_ext {n : Nat} {f g : Nat → Nat → Int} (h : ∀ i j, i < n → j < n → f i j = g i j) : leastM n f = leastM n g := by
  unfold leastM
  refine congrArg minL (List.map_congr_left fun ps hps => ?_)
  exact renF_ext (names_allAt hps) h
end AT

/-! ## least, and the defs that refuse a form of too many boxes -/
namespace AT
open PySem PySem.Spec PyProof.Rows L2 Evl
def sp_all_names : Sp := sp__law_all_names
def sp_least_by (K : Frag) : Sp := fun vs H Q _ => ∃ a n f, vs = [.ref a] ∧ LLI K H a (Fm n f) ∧ n ≤ 5 ∧ ∀ H' p, Ex H H' → OLLI H H' p (leastM n f) → Q (.ref p) H'
def sp_must_be_few (K : Frag) (CF CT : Addr) : Sp := fun vs H Q E => ∃ a M, vs = [.ref a] ∧ LLI K H a M ∧ SmallM M ∧ ∀ H', Ex H H' → (¬ IsForm M → E (.ref CF) none H') ∧ (∀ n f, M = Fm n f → FormOf n f → (4 < n → E (.ref CT) none H') ∧ (n ≤ 4 → Q .non H'))
def sp_least (K : Frag) (CF CT : Addr) : Sp := fun vs H Q E => ∃ a M, vs = [.ref a] ∧ LLI K H a M ∧ SmallM M ∧ (¬ IsForm M → ∀ H', Ex H H' → E (.ref CF) none H') ∧ (∀ n f, M = Fm n f → FormOf n f → (4 < n → ∀ H', Ex H H' → E (.ref CT) none H') ∧ (n ≤ 4 → ∀ H' p, Ex H H' → OLLI H H' p (leastM n f) → Q (.ref p) H'))
/-- a form of more than four boxes is refused -/
def sp_many1 (K : Frag) (CT : Addr) : Sp := fun vs H _ E => ∃ a n f, vs = [.ref a] ∧ LLI K H a (Fm n f) ∧ FormOf n f ∧ 4 < n ∧ ∀ H', Ex H H' → E (.ref CT) none H'
def sp_many2 (K : Frag) (CT : Addr) : Sp := fun vs H _ E => ∃ a b n f M, vs = [.ref a, .ref b] ∧ LLI K H a (Fm n f) ∧ FormOf n f ∧ 4 < n ∧ LLI K H b M ∧ SmallM M ∧ IsForm M ∧ ∀ H', Ex H H' → E (.ref CT) none H'
section
variable {X : Cx}
theorem pssN' {sts : List Stmt} : PSs X sts (fun _ _ _ => False) := ⟨fun _ _ _ _ _ _ h => h.elim⟩
theorem peN' {e : Expr} : PE X e (fun _ _ _ => False) := ⟨fun _ _ _ _ _ _ h => h.elim⟩
theorem callN' {f : Value} : CallR X f (fun _ _ _ => False) := fun _ _ _ _ _ _ _ _ _ h => h.elim
end
section
variable {P : Program} {w : World} {K : Frag} {mg : Str → Option Value} {base : Heap} {k : Nat}
theorem row_ne {n : Nat} {l : List (List Nat)} : ∀ {r : List Int}, r ∈ (l.flatMap (ext n)).map nI → r ≠ [] := fun {r} hr e => by
  obtain ⟨qs, h1, h2⟩ := List.mem_map.mp hr
  obtain ⟨ps, _, h3⟩ := List.mem_flatMap.mp h1
  obtain ⟨x, _, _, rfl⟩ := mem_ext.mp h3
  rw [e] at h2
  have := congrArg List.length h2
  rw [nI_len] at this
  simp at this
theorem sp_names_er {σ : St} {H : Hp} {n : Nat} {ta : TE} (h : Ev ta σ H (.int (n : Int))) (hn : n ≤ 6) : Er (tCall sp__law_all_names [] E0 (tCons ta tNil)) σ H (fun H1 H2 v => ∃ p, v = .ref p ∧ H1 p = none ∧ TL H2 p ((allAt n n).map nI)) := fun H1 e Q q =>
  h H1 e _ fun H2 e2 => ⟨n, rfl, hn, fun H3 p e3 hp hT => q _ H3 (e2.trans e3) ⟨p, rfl, fresh_back e2 hp, hT⟩⟩
/-- [a form renamed for all names] -/
theorem er_allRen {σ : St} {H : Hp} {te tn : TE} {n j : Nat} {f : Nat → Nat → Int} {ws : List Nat} (hn : Ev tn σ H (.int (n : Int))) (h5 : n ≤ 5) (hw : ∀ x, wipe ((wipe σ ws).set j (some x)) ws = wipe σ ws)
    (he : ∀ (c : Addr) (ps : List Nat) H1, Ex H H1 → Names n ps → LI K H1 c (nI ps) → Er te ((wipe σ ws).set j (some (.ref c))) H1 (RM (Fm n (renF f ps)))) :
    Er (tCB (rMinD K) (tCons (tLc (iList K (tCall sp__law_all_names [] E0 (tCons tn tNil))) (gName j) tYes te ws) tNil)) σ H (RM (leastM n f)) := by
  have h := er_lcN (K := K) (t := tYes) (te := te) (n := (allAt n n).length) (fun _ => true) (fun i => RM (Fm n (renF f ((allAt n n).getD i [])))) (fun i => mon'_RM) (sp_names_er hn (by omega)) (Nat.le_trans (allAt_len (by omega) n (by omega)) (Nat.le_trans (Nat.pow_le_pow_right (by decide) h5) (by decide))) hw (fun G1 G2 v g1 g2 hv => ?_)
  · have h2 := er_minRM (K := K) (idx := (List.range (allAt n n).length).filter fun _ => true) h (by
      rw [filt_all]
      intro e
      have := congrArg List.length e
      rw [List.length_range] at this
      exact allAt_ne (List.length_eq_zero_iff.mp this))
    rw [filt_all] at h2
    have e : (List.range (allAt n n).length).map (fun i => Fm n (renF f ((allAt n n).getD i []))) = (allAt n n).map fun ps => Fm n (renF f ps) := by
      conv => rhs; rw [list_eq_range [] (allAt n n)]
      rw [List.map_map]
      rfl
    rw [e] at h2
    exact h2
  · obtain ⟨p, rfl, hp, as, hA, hAP⟩ := hv
    refine ⟨p, as.map V.ref, rfl, sq_of hA, by rw [List.length_map, hAP.length, List.length_map], fun i x G3 hx g3 => ⟨fun H1 e Q q => q H1 (Ex.refl _), fun _ => ?_⟩⟩
    rw [List.getElem?_map] at hx
    cases hax : as[i]? with
    | none => rw [hax] at hx; cases hx
    | some c =>
      rw [hax] at hx
      cases hx
      obtain ⟨r, hr1, hr2⟩ := paired_getL hAP hax
      rw [List.getElem?_map] at hr1
      cases hps : (allAt n n)[i]? with
      | none => rw [hps] at hr1; cases hr1
      | some ps =>
        rw [hps] at hr1
        cases hr1
        have e : (allAt n n).getD i [] = ps := by rw [List.getD_eq_getElem?_getD, hps]; rfl
        rw [e]
        exact he c ps G3 ((g1.trans g2).trans g3) (names_allAt (List.mem_of_getElem? hps)) (sq_of (g3 _ _ hr2))
end
end AT

/-! ## the sum over all orders -/
namespace AT
open PySem
/-! ### sums and products over lists -/
def sumL : List Int → Int
  | [] => 0
  | x :: xs => x + sumL xs
def prodL : List Int → Int
  | [] => 1
  | x :: xs => x * prodL xs
theorem sumL_perm {l l' : List Int} (h : l.Perm l') : sumL l = sumL l' := by
  induction h with
  | nil => rfl
  | cons x _ ih => simp only [sumL, ih]
  | swap x y l => simp only [sumL]; omega
  | trans _ _ h1 h2 => rw [h1, h2]
theorem prodL_perm {l l' : List Int} (h : l.Perm l') : prodL l = prodL l' := by
  induction h with
  | nil => rfl
  | cons x _ ih => simp only [prodL, ih]
  | swap x y l => simp only [prodL]; rw [← Int.mul_assoc, ← Int.mul_assoc, Int.mul_comm y x]
  | trans _ _ h1 h2 => rw [h1, h2]
theorem sumL_add {α : Type} (f g : α → Int) (a b : Int) : ∀ l : List α, sumL (l.map fun x => a * f x + b * g x) = a * sumL (l.map f) + b * sumL (l.map g)
  | [] => by simp [sumL]
  | x :: l => by
    simp only [List.map_cons, sumL, sumL_add f g a b l, Int.mul_add]
    omega
theorem sumL_zero {α : Type} {f : α → Int} : ∀ {l : List α}, (∀ x ∈ l, f x = 0) → sumL (l.map f) = 0
  | [], _ => rfl
  | x :: l, h => by
    simp only [List.map_cons, sumL, h x List.mem_cons_self, sumL_zero fun y hy => h y (List.mem_cons_of_mem _ hy)]
    rfl
theorem sumL_congr {α : Type} {f g : α → Int} {l : List α} (h : ∀ x ∈ l, f x = g x) : sumL (l.map f) = sumL (l.map g) := by rw [List.map_congr_left h]
theorem sumL_mul {α : Type} (f : α → Int) (a : Int) (l : List α) : sumL (l.map fun x => a * f x) = a * sumL (l.map f) := by
  induction l with
  | nil => simp [sumL]
  | cons x l ih => simp only [List.map_cons, sumL, ih, Int.mul_add]
theorem sumL_filter {α : Type} {f : α → Int} {p : α → Bool} : ∀ {l : List α}, (∀ x ∈ l, p x = false → f x = 0) → sumL (l.map f) = sumL ((l.filter p).map f)
  | [], _ => rfl
  | x :: l, h => by
    have ih := sumL_filter (f := f) (p := p) (l := l) fun y hy => h y (List.mem_cons_of_mem _ hy)
    rw [List.filter_cons]
    cases hp : p x with
    | true => simp only [if_true, List.map_cons, sumL, ih]
    | false =>
      simp only [List.map_cons, sumL, ih, h x List.mem_cons_self hp]
      simp
theorem prodL_zero {l : List Int} (h : 0 ∈ l) : prodL l = 0 := by
  induction l with
  | nil => cases h
  | cons x l ih =>
    rcases List.mem_cons.mp h with e | h
    · show x * prodL l = 0
      rw [← e]
      exact Int.zero_mul _
    · show x * prodL l = 0
      rw [ih h]
      exact Int.mul_zero _
def prN (n : Nat) (h : Nat → Int) : Int := prodL ((List.range n).map h)
theorem prN_congr {n : Nat} {h g : Nat → Int} (e : ∀ i, i < n → h i = g i) : prN n h = prN n g := congrArg prodL (List.map_congr_left fun i hi => e i (List.mem_range.mp hi))
theorem prN_perm {n : Nat} {h : Nat → Int} {l : List Nat} (p : l.Perm (List.range n)) : prodL (l.map h) = prN n h := prodL_perm (p.map h)
theorem prN_zero {n i : Nat} {h : Nat → Int} (hi : i < n) (e : h i = 0) : prN n h = 0 := prodL_zero (List.mem_map.mpr ⟨i, List.mem_range.mpr hi, e⟩)
theorem prN_succ (n : Nat) (h : Nat → Int) : prN (n + 1) h = h 0 * prN n fun i => h (i + 1) := by
  unfold prN
  rw [List.range_succ_eq_map, List.map_cons, List.map_map]
  rfl
theorem prodL_one {x : Int} {h : Nat → Int} {i : Nat} : ∀ {l : List Nat}, l.Nodup → i ∈ l → prodL (l.map fun k => if k = i then x else h k) = x * prodL (l.map fun k => if k = i then 1 else h k)
  | [], _, hm => by cases hm
  | a :: l, hn, hm => by
    rw [List.nodup_cons] at hn
    by_cases e : a = i
    · subst e
      have h1 : (l.map fun k => if k = a then x else h k) = l.map fun k => if k = a then 1 else h k := List.map_congr_left fun k hk => by
        have : k ≠ a := fun z => hn.1 (z ▸ hk)
        rw [if_neg this, if_neg this]
      simp only [List.map_cons, prodL, if_true, h1, Int.one_mul]
    · have hm' : i ∈ l := (List.mem_cons.mp hm).resolve_left fun z => e z.symm
      show (if a = i then x else h a) * prodL (l.map fun k => if k = i then x else h k) = x * ((if a = i then 1 else h a) * prodL (l.map fun k => if k = i then 1 else h k))
      rw [if_neg e, if_neg e, prodL_one hn.2 hm', ← Int.mul_assoc, ← Int.mul_assoc, Int.mul_comm (h a) x]
/-! ### the sign, the sum -/
def invs (ps : List Nat) : Nat := ((List.range ps.length).map fun k => ((List.range k).filter fun j => decide (ps.getD k 0 < ps.getD j 0)).length).sum
def sgn (ps : List Nat) : Int := 1 - ((invs ps % 2 : Nat) : Int) * 2
def term (n : Nat) (A : Nat → Nat → Int) (ps : List Nat) : Int := sgn ps * prN n fun i => A i (ps.getD i 0)
def detL (n : Nat) (A : Nat → Nat → Int) : Int := sumL ((allAt n n).map (term n A))
/-! ### two neighbours changed about -/
def adj : Nat → List Nat → List Nat
  | 0, a :: b :: r => b :: a :: r
  | i + 1, x :: l => x :: adj i l
  | _, l => l
theorem adj_perm : ∀ (i : Nat) (l : List Nat), (adj i l).Perm l
  | 0, [] => .refl _
  | 0, [_] => .refl _
  | 0, a :: b :: r => .swap _ _ _
  | _ + 1, [] => .refl _
  | i + 1, x :: l => (adj_perm i l).cons x
theorem adj_adj : ∀ (i : Nat) (l : List Nat), adj i (adj i l) = l
  | 0, [] => rfl
  | 0, [_] => rfl
  | 0, a :: b :: r => rfl
  | _ + 1, [] => rfl
  | i + 1, x :: l => congrArg (x :: ·) (adj_adj i l)
def swp (i k : Nat) : Nat := if k = i then i + 1 else if k = i + 1 then i else k
theorem swp_succ (i k : Nat) : swp (i + 1) (k + 1) = swp i k + 1 := by
  unfold swp
  by_cases h1 : k = i
  · rw [if_pos h1, if_pos (by omega)]
  · by_cases h2 : k = i + 1
    · rw [if_neg h1, if_neg (by omega), if_pos h2, if_pos (by omega)]
    · rw [if_neg h1, if_neg (by omega), if_neg h2, if_neg (by omega)]
theorem adj_getD : ∀ (i : Nat) (l : List Nat) (k : Nat), i + 1 < l.length → (adj i l).getD k 0 = l.getD (swp i k) 0
  | 0, [], _, h => by simp at h
  | 0, [_], _, h => by simp at h
  | 0, a :: b :: r, 0, _ => rfl
  | 0, a :: b :: r, 1, _ => rfl
  | 0, a :: b :: r, k + 2, _ => by
    have : swp 0 (k + 2) = k + 2 := by unfold swp; rw [if_neg (by omega), if_neg (by omega)]
    rw [this]; rfl
  | i + 1, [], _, h => by simp at h
  | i + 1, x :: l, 0, _ => by
    have : swp (i + 1) 0 = 0 := by unfold swp; rw [if_neg (by omega), if_neg (by omega)]
    rw [this]; rfl
  | i + 1, x :: l, k + 1, h => by
    rw [swp_succ]
    have := adj_getD i l k (by simpa using h)
    simpa [adj] using this
def invF : List Nat → Nat
  | [] => 0
  | x :: xs => (xs.filter fun y => decide (y < x)).length + invF xs
theorem invF_adj : ∀ (i : Nat) (l : List Nat), i + 1 < l.length → l.Nodup → invF (adj i l) = invF l + 1 ∨ invF l = invF (adj i l) + 1
  | 0, [], h, _ => by simp at h
  | 0, [_], h, _ => by simp at h
  | 0, a :: b :: r, _, hn => by
    have hab : a ≠ b := by
      rw [List.nodup_cons] at hn
      exact fun e => hn.1 (e ▸ List.mem_cons_self)
    simp only [adj, invF, List.filter_cons]
    by_cases h : a < b
    · have h2 : ¬ b < a := by omega
      simp only [h, h2, decide_true, decide_false, if_true, List.length_cons]
      simp
      omega
    · have h2 : b < a := by omega
      simp only [h, h2, decide_true, decide_false, if_true, List.length_cons]
      simp
      omega
  | i + 1, [], h, _ => by simp at h
  | i + 1, x :: l, h, hn => by
    rw [List.nodup_cons] at hn
    have ih := invF_adj i l (by simpa using h) hn.2
    have hc := ((adj_perm i l).filter fun y => decide (y < x)).length_eq
    simp only [adj, invF, hc]
    omega
theorem filt_getD (p : Nat → Bool) (l : List Nat) : ((List.range l.length).filter fun k => p (l.getD k 0)).length = (l.filter p).length := by
  conv => rhs; rw [list_eq_range 0 l]
  rw [List.filter_map, List.length_map]
  rfl
theorem sum_ite (p : Nat → Bool) (f : Nat → Nat) : ∀ l : List Nat, (l.map fun k => (if p k = true then 1 else 0) + f k).sum = (l.filter p).length + (l.map f).sum
  | [] => rfl
  | x :: l => by
    have ih := sum_ite p f l
    simp only [List.map_cons, List.sum_cons, List.filter_cons]
    cases h : p x with
    | true => simp only [if_true, List.length_cons, ih]; omega
    | false => simp only [ih]; simp; omega
theorem invs_eq : ∀ l : List Nat, invs l = invF l
  | [] => rfl
  | x :: xs => by
    have ih := invs_eq xs
    have h1 : ∀ k, ((List.range (k + 1)).filter fun j => decide ((x :: xs).getD (k + 1) 0 < (x :: xs).getD j 0)).length = (if decide (xs.getD k 0 < x) = true then 1 else 0) + ((List.range k).filter fun j => decide (xs.getD k 0 < xs.getD j 0)).length := fun k => by
      rw [List.range_succ_eq_map, List.filter_cons, List.filter_map]
      by_cases h : xs.getD k 0 < x
      · simp only [List.getD_cons_succ, List.getD_cons_zero, h, decide_true, if_true, List.length_cons, List.length_map]
        rw [Nat.add_comm]
        rfl
      · simp only [List.getD_cons_succ, List.getD_cons_zero, h, decide_false, List.length_map]
        simp
        rfl
    have h2 : invs (x :: xs) = ((List.range xs.length).map fun k => (if decide (xs.getD k 0 < x) = true then 1 else 0) + ((List.range k).filter fun j => decide (xs.getD k 0 < xs.getD j 0)).length).sum := by
      unfold invs
      rw [List.length_cons, List.range_succ_eq_map, List.map_cons, List.sum_cons, List.map_map]
      have : (fun k => ((List.range k).filter fun j => decide ((x :: xs).getD k 0 < (x :: xs).getD j 0)).length) ∘ Nat.succ = fun k => (if decide (xs.getD k 0 < x) = true then 1 else 0) + ((List.range k).filter fun j => decide (xs.getD k 0 < xs.getD j 0)).length := funext fun k => h1 k
      rw [this]
      simp
    rw [h2, sum_ite (fun k => decide (xs.getD k 0 < x)), filt_getD fun y => decide (y < x)]
    show _ + invs xs = _
    rw [ih]
    rfl
theorem sgn_adj {i : Nat} {l : List Nat} (h : i + 1 < l.length) (hn : l.Nodup) : sgn (adj i l) = 0 - sgn l := by
  unfold sgn
  rw [invs_eq, invs_eq]
  rcases invF_adj i l h hn with e | e <;> omega
/-! ### rules -/
theorem allAt_nd (n : Nat) : (allAt n n).Nodup := by
  rw [allAt_comp]
  refine (comp_sorted n part_nil).imp fun {a b} h e => ?_
  rw [e, ltI_self] at h
  cases h
theorem sum_bij {n : Nat} {φ : List Nat → List Nat} (g : List Nat → Int) (h : ∀ ps, Names n ps → Names n (φ ps)) (hi : ∀ ps qs, Names n ps → Names n qs → φ ps = φ qs → ps = qs) : sumL ((allAt n n).map fun ps => g (φ ps)) = sumL ((allAt n n).map g) := by
  have hp : ((allAt n n).map φ).Perm (allAt n n) := by
    refine perm_of_sub ?_ (fun x hx => ?_) (by rw [List.length_map]; exact Nat.le_refl _)
    · rw [List.Nodup, List.pairwise_map]
      exact List.Pairwise.imp_of_mem (fun {a b} ha hb hne e => hne (hi a b (names_allAt ha) (names_allAt hb) e)) (allAt_nd n)
    · obtain ⟨ps, h1, rfl⟩ := List.mem_map.mp hx
      exact mem_allAt_iff.mpr (h ps (names_allAt h1))
  have := sumL_perm (hp.map g)
  rw [List.map_map] at this
  exact this
theorem detL_congr {n : Nat} {A B : Nat → Nat → Int} (h : ∀ i j, i < n → j < n → A i j = B i j) : detL n A = detL n B := by
  refine sumL_congr fun ps hps => ?_
  unfold term
  exact congrArg _ (prN_congr fun i hi => h i _ hi (names_getD (names_allAt hps) hi).1)
theorem swp_names {n i : Nat} (h : i + 1 < n) : ((List.range n).map (swp i)).Perm (List.range n) := by
  refine perm_of_sub ?_ (fun x hx => ?_) (by simp)
  · rw [List.Nodup, List.pairwise_map]
    refine List.Pairwise.imp_of_mem (fun {a b} _ _ hne e => hne ?_) List.nodup_range
    have h2 : ∀ k, swp i (swp i k) = k := fun k => by
      unfold swp
      by_cases h1 : k = i
      · rw [if_pos h1, if_neg (by omega), if_pos rfl, h1]
      · by_cases h2 : k = i + 1
        · rw [if_neg h1, if_pos h2, if_pos rfl, h2]
        · rw [if_neg h1, if_neg h2, if_neg h1, if_neg h2]
    rw [← h2 a, e, h2 b]
  · obtain ⟨k, hk, rfl⟩ := List.mem_map.mp hx
    have hk := List.mem_range.mp hk
    rw [List.mem_range]
    unfold swp
    split
    · omega
    · split <;> omega
/-- two neighbouring rows changed about -/
theorem detL_adj {n i : Nat} {A : Nat → Nat → Int} (h : i + 1 < n) : detL n (fun k j => A (swp i k) j) = 0 - detL n A := by
  have e : detL n (fun k j => A (swp i k) j) = sumL ((allAt n n).map fun ps => (-1) * term n A (adj i ps)) := by
    refine sumL_congr fun ps hps => ?_
    have hps := names_allAt hps
    have hlen := hps.len
    unfold term
    rw [sgn_adj (by omega) hps.nd]
    have e1 : prN n (fun k => A k ((adj i ps).getD k 0)) = prN n fun k => A (swp i k) (ps.getD k 0) := by
      rw [← prN_perm (swp_names h), List.map_map]
      unfold prN
      refine congrArg prodL (List.map_congr_left fun k hk => ?_)
      show A (swp i k) ((adj i ps).getD (swp i k) 0) = _
      rw [adj_getD i ps _ (by omega)]
      have : swp i (swp i k) = k := by
        unfold swp
        by_cases h1 : k = i
        · rw [if_pos h1, if_neg (by omega), if_pos rfl, h1]
        · by_cases h2 : k = i + 1
          · rw [if_neg h1, if_pos h2, if_pos rfl, h2]
          · rw [if_neg h1, if_neg h2, if_neg h1, if_neg h2]
      rw [this]
    rw [e1]
    generalize prN n (fun k => A (swp i k) (ps.getD k 0)) = x
    generalize sgn ps = y
    rw [Int.sub_mul]
    omega
  rw [e, sumL_mul]
  have := sum_bij (n := n) (φ := adj i) (term n A) (fun ps hps => (adj_perm i ps).trans hps) (fun ps qs _ _ e => by rw [← adj_adj i ps, e, adj_adj])
  rw [this]
  unfold detL
  omega
def setR (A : Nat → Nat → Int) (i : Nat) (r : Nat → Int) : Nat → Nat → Int := fun k j => if k = i then r j else A k j
theorem term_setR {n i : Nat} {A : Nat → Nat → Int} {r : Nat → Int} {ps : List Nat} (hi : i < n) : term n (setR A i r) ps = r (ps.getD i 0) * term n (setR A i fun _ => 1) ps := by
  unfold term
  have h1 : prN n (fun k => setR A i r k (ps.getD k 0)) = r (ps.getD i 0) * prN n fun k => setR A i (fun _ => 1) k (ps.getD k 0) := by
    have := prodL_one (x := r (ps.getD i 0)) (h := fun k => A k (ps.getD k 0)) (i := i) (l := List.range n) List.nodup_range (List.mem_range.mpr hi)
    unfold prN
    rw [← (show _ = _ from congrArg (r (ps.getD i 0) * ·) (congrArg prodL (List.map_congr_left fun k _ => by unfold setR; rfl))), ← this]
    refine congrArg prodL (List.map_congr_left fun k _ => ?_)
    unfold setR
    by_cases e : k = i
    · rw [if_pos e, if_pos e, e]
    · rw [if_neg e, if_neg e]
  rw [h1, ← Int.mul_assoc, ← Int.mul_assoc, Int.mul_comm (sgn ps)]
/-- a row that is a sum -/
theorem detL_lin {n i : Nat} {A : Nat → Nat → Int} {r s : Nat → Int} {a b : Int} (hi : i < n) : detL n (setR A i fun j => a * r j + b * s j) = a * detL n (setR A i r) + b * detL n (setR A i s) := by
  unfold detL
  rw [← sumL_add]
  refine sumL_congr fun ps _ => ?_
  rw [term_setR hi, term_setR (r := r) hi, term_setR (r := s) hi, Int.add_mul, Int.mul_assoc, Int.mul_assoc]
theorem setR_self (A : Nat → Nat → Int) (i : Nat) : setR A i (A i) = A := funext fun k => funext fun j => by
  unfold setR
  by_cases e : k = i
  · rw [if_pos e, e]
  · rw [if_neg e]
/-- two equal rows -/
theorem detL_same {n : Nat} : ∀ (d : Nat) {A : Nat → Nat → Int} {p : Nat}, p + d + 1 < n → (∀ j, j < n → A p j = A (p + d + 1) j) → detL n A = 0
  | 0, A, p, h, e => by
    have h1 := detL_adj (A := A) (i := p) h
    have h2 : detL n (fun k j => A (swp p k) j) = detL n A := detL_congr fun k j _ hj => by
      unfold swp
      by_cases h1 : k = p
      · rw [if_pos h1, h1]; exact (e j hj).symm
      · by_cases h2 : k = p + 1
        · rw [if_neg h1, if_pos h2, h2]; exact e j hj
        · rw [if_neg h1, if_neg h2]
    omega
  | d + 1, A, p, h, e => by
    have h1 := detL_adj (A := A) (i := p + d + 1) (by omega)
    have h2 := detL_same (n := n) d (A := fun k j => A (swp (p + d + 1) k) j) (p := p) (by omega) fun j hj => by
      have e1 : swp (p + d + 1) p = p := by unfold swp; rw [if_neg (by omega), if_neg (by omega)]
      have e2 : swp (p + d + 1) (p + d + 1) = p + d + 1 + 1 := by unfold swp; rw [if_pos rfl]
      show A (swp (p + d + 1) p) j = A (swp (p + d + 1) (p + d + 1)) j
      rw [e1, e2]
      exact e j hj
    omega
theorem detL_eq {n p q : Nat} {A : Nat → Nat → Int} (hp : p < n) (hq : q < n) (hne : p ≠ q) (e : ∀ j, j < n → A p j = A q j) : detL n A = 0 := by
  rcases Nat.lt_or_gt_of_ne hne with h | h
  · obtain ⟨d, rfl⟩ : ∃ d, q = p + d + 1 := ⟨q - p - 1, by omega⟩
    exact detL_same d hq e
  · obtain ⟨d, rfl⟩ : ∃ d, p = q + d + 1 := ⟨p - q - 1, by omega⟩
    exact detL_same d hp fun j hj => (e j hj).symm
/-- a row put behind a times itself and b times another one -/
theorem detL_op {n p q : Nat} {A : Nat → Nat → Int} {a b : Int} (hp : p < n) (hq : q < n) (hne : p ≠ q) : detL n (setR A p fun j => a * A p j + b * A q j) = a * detL n A := by
  rw [detL_lin hp, setR_self]
  have h : detL n (setR A p (A q)) = 0 := detL_eq hp hq hne fun j _ => by
    unfold setR
    rw [if_pos rfl, if_neg (Ne.symm hne)]
  rw [h]
  omega
/-- two rows changed about -/
theorem detL_swap {n p q : Nat} {A : Nat → Nat → Int} (hp : p < n) (hq : q < n) (hne : p ≠ q) : detL n (setR (setR A p (A q)) q (A p)) = 0 - detL n A := by
  have h0 : ∀ B : Nat → Nat → Int, (∀ j, B p j = B q j) → detL n B = 0 := fun B h => detL_eq hp hq hne fun j _ => h j
  have mk : ∀ r s, detL n (setR (setR A p r) q s) = detL n (setR (setR A q s) p r) := fun r s => detL_congr fun i j _ _ => by
    unfold setR
    by_cases e1 : i = q
    · rw [if_pos e1, if_neg (by omega), if_pos e1]
    · rw [if_neg e1, if_neg e1]
  -- (p + q, p + q)
  have h1 : detL n (setR (setR A p fun j => 1 * A p j + 1 * A q j) q fun j => 1 * A p j + 1 * A q j) = 0 := h0 _ fun j => by
    unfold setR
    rw [if_neg hne, if_pos rfl, if_pos rfl]
  rw [detL_lin hq, mk, mk, detL_lin hp, detL_lin hp, ← mk, ← mk, ← mk, ← mk] at h1
  have h2 : detL n (setR (setR A p (A p)) q (A p)) = 0 := h0 _ fun j => by
    unfold setR
    rw [if_neg hne, if_pos rfl, if_pos rfl]
  have h3 : detL n (setR (setR A p (A q)) q (A q)) = 0 := h0 _ fun j => by
    unfold setR
    rw [if_neg hne, if_pos rfl, if_pos rfl]
  have h4 : detL n (setR (setR A p (A p)) q (A q)) = detL n A := by rw [setR_self, setR_self]
  rw [h2, h3, h4] at h1
  omega
/-! ### a first column of noughts -/
theorem detL_col0 {n : Nat} {A : Nat → Nat → Int} (h0 : 0 < n) (h : ∀ i, i < n → A i 0 = 0) : detL n A = 0 := sumL_zero fun ps hps => by
  have hps := names_allAt hps
  unfold term
  have hix := hps.ix h0
  rw [prN_zero (i := ps.idxOf 0) hix (by rw [names_at_ix hps h0]; exact h _ hix)]
  exact Int.mul_zero _
def cons0 (qs : List Nat) : List Nat := 0 :: qs.map (· + 1)
theorem invF_map (qs : List Nat) : invF (qs.map (· + 1)) = invF qs := by
  induction qs with
  | nil => rfl
  | cons x qs ih =>
    simp only [List.map_cons, invF, ih, List.filter_map, List.length_map]
    congr 2
    refine List.filter_congr fun y _ => ?_
    show decide (y + 1 < x + 1) = decide (y < x)
    exact decide_eq_decide.mpr (by omega)
theorem sgn_cons0 (qs : List Nat) : sgn (cons0 qs) = sgn qs := by
  unfold sgn cons0
  rw [invs_eq, invs_eq]
  have : invF (0 :: qs.map (· + 1)) = invF qs := by
    show (List.filter _ _).length + _ = _
    rw [invF_map]
    have : (qs.map (· + 1)).filter (fun y => decide (y < 0)) = [] := List.filter_eq_nil_iff.mpr fun y _ => by simp
    rw [this]
    simp
  rw [this]
theorem cons0_names {n : Nat} {qs : List Nat} : Names (n + 1) (cons0 qs) ↔ Names n qs := by
  unfold Names cons0
  rw [List.range_succ_eq_map, List.perm_cons]
  refine ⟨fun h => ?_, fun h => h.map _⟩
  have := h.map fun x => x - 1
  rw [List.map_map, List.map_map] at this
  have e : ∀ l : List Nat, l.map ((fun x => x - 1) ∘ fun x => x + 1) = l := fun l => by
    conv => rhs; rw [← List.map_id l]
    exact List.map_congr_left fun y _ => by show y + 1 - 1 = y; omega
  have e2 : ∀ l : List Nat, l.map ((fun x => x - 1) ∘ Nat.succ) = l := fun l => e l
  rw [e, e2] at this
  exact this
theorem detL_block {n : Nat} {A : Nat → Nat → Int} (h : ∀ i, i < n → A (i + 1) 0 = 0) : detL (n + 1) A = A 0 0 * detL n fun i j => A (i + 1) (j + 1) := by
  unfold detL
  rw [sumL_filter (p := fun ps => decide (ps.getD 0 0 = 0)) fun ps hps hp => ?_]
  · have hp : ((allAt (n + 1) (n + 1)).filter fun ps => decide (ps.getD 0 0 = 0)).Perm ((allAt n n).map cons0) := by
      have hnd : ((allAt n n).map cons0).Nodup := by
        rw [List.Nodup, List.pairwise_map]
        refine (allAt_nd n).imp fun {a b} hne e => hne ?_
        unfold cons0 at e
        injection e with _ e
        exact (List.map_inj_right fun a b e => by omega).mp e
      refine (List.perm_ext_iff_of_nodup ((allAt_nd (n + 1)).filter _) hnd).mpr fun ps => ?_
      rw [List.mem_filter, mem_allAt_iff, List.mem_map, decide_eq_true_eq]
      constructor
      · rintro ⟨h1, h2⟩
        cases ps with
        | nil => have := h1.len; simp at this
        | cons x ps =>
          have hx : x = 0 := h2
          subst hx
          have hnd := h1.nd
          rw [List.nodup_cons] at hnd
          have e : ps = (ps.map (· - 1)).map (· + 1) := by
            rw [List.map_map]
            conv => lhs; rw [← List.map_id ps]
            refine List.map_congr_left fun y hy => ?_
            have : y ≠ 0 := fun z => hnd.1 (z ▸ hy)
            show y = y - 1 + 1
            omega
          refine ⟨ps.map (· - 1), mem_allAt_iff.mpr (cons0_names.mp ?_), ?_⟩
          · unfold cons0
            rw [← e]
            exact h1
          · unfold cons0
            rw [← e]
      · rintro ⟨qs, h1, rfl⟩
        exact ⟨cons0_names.mpr (names_allAt h1), rfl⟩
    rw [sumL_perm (hp.map (term (n + 1) A)), List.map_map, ← sumL_mul]
    refine sumL_congr fun qs hqs => ?_
    show term (n + 1) A (cons0 qs) = _
    unfold term
    rw [sgn_cons0, prN_succ]
    have e : prN n (fun i => A (i + 1) ((cons0 qs).getD (i + 1) 0)) = prN n fun i => A (i + 1) (qs.getD i 0 + 1) := prN_congr fun i hi => by
      have : (cons0 qs).getD (i + 1) 0 = qs.getD i 0 + 1 := by
        unfold cons0
        have hl := (names_allAt hqs).len
        rw [List.getD_cons_succ, List.getD_eq_getElem?_getD, List.getD_eq_getElem?_getD, List.getElem?_map, List.getElem?_eq_getElem (by omega)]
        rfl
      rw [this]
    rw [e]
    show sgn qs * (A 0 0 * _) = A 0 0 * (sgn qs * _)
    rw [← Int.mul_assoc, ← Int.mul_assoc, Int.mul_comm (sgn qs)]
  · have hps := names_allAt hps
    rw [decide_eq_false_iff_not] at hp
    unfold term
    have h0 : 0 < n + 1 := by omega
    have hix := hps.ix h0
    have hne : ps.idxOf 0 ≠ 0 := fun z => hp (by have := names_at_ix hps h0; rw [z] at this; exact this)
    rw [prN_zero (i := ps.idxOf 0) hix ?_]
    · exact Int.mul_zero _
    · rw [names_at_ix hps h0]
      obtain ⟨m, hm⟩ : ∃ m, ps.idxOf 0 = m + 1 := ⟨ps.idxOf 0 - 1, by omega⟩
      rw [hm]
      exact h m (by omega)
end AT

/-! ## clearing rows without fractions -/
namespace AT
open PySem
def chioY (X : Nat → Nat → Int) : Nat → Nat → Int := fun i j => X 0 0 * X (i + 1) (j + 1) - X (i + 1) 0 * X 0 (j + 1)
def chioZ (X : Nat → Nat → Int) (t : Nat) : Nat → Nat → Int := fun i j => if 1 ≤ i ∧ i ≤ t then X 0 0 * X i j - X i 0 * X 0 j else X i j
theorem chioZ_det {r : Nat} {X : Nat → Nat → Int} : ∀ t, t ≤ r → detL (r + 1) (chioZ X t) = X 0 0 ^ t * detL (r + 1) X
  | 0, _ => by
    have : chioZ X 0 = X := funext fun i => funext fun j => by unfold chioZ; rw [if_neg (by omega)]
    rw [this, Int.pow_zero, Int.one_mul]
  | t + 1, h => by
    have ih := chioZ_det (r := r) (X := X) t (by omega)
    have e : chioZ X (t + 1) = setR (chioZ X t) (t + 1) fun j => X 0 0 * chioZ X t (t + 1) j + (0 - X (t + 1) 0) * chioZ X t 0 j := funext fun i => funext fun j => by
      have h1 : chioZ X t (t + 1) j = X (t + 1) j := by unfold chioZ; rw [if_neg (by omega)]
      have h2 : chioZ X t 0 j = X 0 j := by unfold chioZ; rw [if_neg (by omega)]
      unfold setR
      dsimp only
      rw [h1, h2]
      by_cases e : i = t + 1
      · subst e
        rw [if_pos rfl]
        unfold chioZ
        rw [if_pos (by omega)]
        grind
      · rw [if_neg e]
        unfold chioZ
        by_cases h3 : 1 ≤ i ∧ i ≤ t
        · rw [if_pos h3, if_pos (by omega)]
        · rw [if_neg h3, if_neg (by omega)]
    rw [e, detL_op (by omega) (by omega) (by omega), ih, Int.pow_succ]
    grind
theorem chio {r : Nat} {X : Nat → Nat → Int} : X 0 0 ^ r * detL (r + 1) X = X 0 0 * detL r (chioY X) := by
  rw [← chioZ_det r (Nat.le_refl r), detL_block fun i hi => ?_]
  · have h0 : chioZ X r 0 0 = X 0 0 := by unfold chioZ; rw [if_neg (by omega)]
    rw [h0]
    refine congrArg _ (detL_congr fun i j hi _ => ?_)
    unfold chioZ chioY
    rw [if_pos (by omega)]
  · unfold chioZ
    rw [if_pos (by omega)]
    grind
theorem detL_scale {n : Nat} {A : Nat → Nat → Int} (d : Int) : detL n (fun i j => d * A i j) = d ^ n * detL n A := by
  unfold detL
  rw [← sumL_mul]
  refine sumL_congr fun ps _ => ?_
  unfold term
  have : ∀ n (h : Nat → Int), prN n (fun i => d * h i) = d ^ n * prN n h := fun n => by
    induction n with
    | zero =>
      intro h
      show (1 : Int) = d ^ 0 * 1
      rw [Int.pow_zero]
      rfl
    | succ n ih =>
      intro h
      rw [prN_succ, prN_succ, ih fun i => h (i + 1), Int.pow_succ]
      grind
  rw [this n fun i => A i (ps.getD i 0)]
  grind
theorem detL_one {A : Nat → Nat → Int} : detL 1 A = A 0 0 := by
  have h : allAt 1 1 = [[0]] := by decide
  unfold detL
  rw [h]
  show sgn [0] * (A 0 0 * 1) + 0 = A 0 0
  have : sgn [0] = 1 := by decide
  rw [this]
  omega
theorem detL_two {A : Nat → Nat → Int} : detL 2 A = A 0 0 * A 1 1 - A 0 1 * A 1 0 := by
  have h : allAt 2 2 = [[0, 1], [1, 0]] := by decide
  unfold detL
  rw [h]
  show sgn [0, 1] * (A 0 0 * (A 1 1 * 1)) + (sgn [1, 0] * (A 0 1 * (A 1 0 * 1)) + 0) = _
  have h1 : sgn [0, 1] = 1 := by decide
  have h2 : sgn [1, 0] = -1 := by decide
  rw [h1, h2]
  grind
theorem detL_nil {A : Nat → Nat → Int} : detL 0 A = 1 := by
  have h : allAt 0 0 = [[]] := by decide
  unfold detL
  rw [h]
  rfl
/-- how far it has come: m rows are left, d is the pivot ahead, s the sign, L what is looked for -/
structure Bar (L : Int) (m : Nat) (X : Nat → Nat → Int) (d s : Int) : Prop where
  d0 : d ≠ 0
  dv : ∀ (r : Nat) (ρ γ : Nat → Nat), (∀ i, i < r + 1 → ρ i < m) → (∀ j, j < r + 1 → γ j < m) → ∃ c, detL (r + 1) (fun i j => X (ρ i) (γ j)) = d ^ r * c
  dt : ∀ t, m = t + 1 → s * detL m X = d ^ t * L
theorem Bar.start {n : Nat} {A : Nat → Nat → Int} : Bar (detL n A) n A 1 1 := ⟨by decide, fun r ρ γ _ _ => ⟨_, by rw [Int.one_pow, Int.one_mul]⟩, fun t _ => by rw [Int.one_pow]⟩
theorem Bar.exact {L : Int} {m : Nat} {X : Nat → Nat → Int} {d s : Int} (B : Bar L m X d s) {i j : Nat} (hi : i + 1 < m) (hj : j + 1 < m) : ∃ c, chioY X i j = d * c := by
  obtain ⟨c, hc⟩ := B.dv 1 (fun k => if k = 0 then 0 else i + 1) (fun k => if k = 0 then 0 else j + 1) (fun k _ => by show (if k = 0 then 0 else i + 1) < m; split <;> omega) (fun k _ => by show (if k = 0 then 0 else j + 1) < m; split <;> omega)
  refine ⟨c, ?_⟩
  have h := hc
  rw [detL_two] at h
  unfold chioY
  simp at h
  rw [Int.pow_succ, Int.pow_zero, Int.one_mul] at h
  rw [← h]
  grind
theorem pow_ne {d : Int} (h : d ≠ 0) : ∀ n : Nat, d ^ n ≠ 0
  | 0 => by rw [Int.pow_zero]; decide
  | n + 1 => by
    rw [Int.pow_succ]
    exact Int.mul_ne_zero (pow_ne h n) h
theorem Bar.zero {L : Int} {m : Nat} {X : Nat → Nat → Int} {d s : Int} (B : Bar L m X d s) (hm : 1 ≤ m) (h : ∀ i, i < m → X i 0 = 0) : L = 0 := by
  obtain ⟨t, rfl⟩ : ∃ t, m = t + 1 := ⟨m - 1, by omega⟩
  have h1 := B.dt t rfl
  rw [detL_col0 (by omega) h, Int.mul_zero] at h1
  exact (Int.mul_eq_zero.mp h1.symm).resolve_left (pow_ne B.d0 t)
theorem Bar.last {L : Int} {X : Nat → Nat → Int} {d s : Int} (B : Bar L 1 X d s) : s * X 0 0 = L := by
  have h1 := B.dt 0 rfl
  rw [detL_one, Int.pow_zero, Int.one_mul] at h1
  exact h1
theorem Bar.swap {L : Int} {m p : Nat} {X : Nat → Nat → Int} {d s : Int} (B : Bar L m X d s) (hp : p < m) (hne : 0 < p) : Bar L m (setR (setR X 0 (X p)) p (X 0)) d (0 - s) := by
  refine ⟨B.d0, fun r ρ γ hr hg => ?_, fun t ht => ?_⟩
  · have h1 : ∀ i j, setR (setR X 0 (X p)) p (X 0) i j = X (if i = p then 0 else if i = 0 then p else i) j := fun i j => by
      unfold setR
      by_cases e : i = p
      · rw [if_pos e, if_pos e]
      · by_cases e2 : i = 0
        · rw [if_neg e, if_neg e, if_pos e2, if_pos e2]
        · rw [if_neg e, if_neg e, if_neg e2, if_neg e2]
    obtain ⟨c, hc⟩ := B.dv r (fun i => if ρ i = p then 0 else if ρ i = 0 then p else ρ i) γ (fun i hi => by
      have := hr i hi
      show (if ρ i = p then 0 else if ρ i = 0 then p else ρ i) < m
      split
      · omega
      · split <;> omega) hg
    refine ⟨c, ?_⟩
    rw [← hc]
    exact detL_congr fun i j _ _ => h1 _ _
  · rw [detL_swap (by omega) hp (by omega)]
    have := B.dt t ht
    rw [← this]
    grind
theorem Bar.step {L : Int} {m : Nat} {X X' : Nat → Nat → Int} {d s : Int} (B : Bar L (m + 1) X d s) (hp : X 0 0 ≠ 0) (h : ∀ i j, i < m → j < m → d * X' i j = chioY X i j) : Bar L m X' (X 0 0) s := by
  refine ⟨hp, fun r ρ γ hr hg => ?_, fun t ht => ?_⟩
  · obtain ⟨c, hc⟩ := B.dv (r + 1) (fun i => if i = 0 then 0 else ρ (i - 1) + 1) (fun i => if i = 0 then 0 else γ (i - 1) + 1)
      (fun i hi => by
        show (if i = 0 then 0 else ρ (i - 1) + 1) < m + 1
        split
        · omega
        · have := hr (i - 1) (by omega)
          omega)
      (fun i hi => by
        show (if i = 0 then 0 else γ (i - 1) + 1) < m + 1
        split
        · omega
        · have := hg (i - 1) (by omega)
          omega)
    have h1 := chio (r := r + 1) (X := fun i j => X (if i = 0 then 0 else ρ (i - 1) + 1) (if j = 0 then 0 else γ (j - 1) + 1))
    rw [hc] at h1
    have h2 : detL (r + 1) (chioY fun i j => X (if i = 0 then 0 else ρ (i - 1) + 1) (if j = 0 then 0 else γ (j - 1) + 1)) = detL (r + 1) fun i j => d * X' (ρ i) (γ j) := detL_congr fun i j hi hj => by
      rw [h _ _ (hr i hi) (hg j hj)]
      unfold chioY
      simp
    rw [h2, detL_scale] at h1
    have h1 : X 0 0 ^ (r + 1) * (d ^ (r + 1) * c) = X 0 0 * (d ^ (r + 1) * detL (r + 1) fun i j => X' (ρ i) (γ j)) := h1
    refine ⟨c, ?_⟩
    have h3 : (X 0 0 * d ^ (r + 1)) * (detL (r + 1) fun i j => X' (ρ i) (γ j)) = (X 0 0 * d ^ (r + 1)) * (X 0 0 ^ r * c) := by
      rw [Int.pow_succ (X 0 0)] at h1
      grind
    exact Int.eq_of_mul_eq_mul_left (Int.mul_ne_zero hp (pow_ne B.d0 _)) h3
  · have h1 := chio (r := m) (X := X)
    have h2 : detL m (chioY X) = d ^ m * detL m X' := by
      rw [← detL_scale]
      exact detL_congr fun i j hi hj => (h i j hi hj).symm
    have h3 := B.dt m rfl
    rw [h2] at h1
    have h4 : (X 0 0 * d ^ m) * (s * detL m X') = (X 0 0 * d ^ m) * (X 0 0 ^ t * L) := by
      have h5 : X 0 0 ^ m = X 0 0 ^ t * X 0 0 := by rw [ht, Int.pow_succ]
      rw [h5] at h1
      have : s * (X 0 0 ^ t * X 0 0 * detL (m + 1) X) = s * (X 0 0 * (d ^ m * detL m X')) := by rw [h1]
      generalize detL m X' = u at *
      generalize detL (m + 1) X = v at *
      generalize X 0 0 ^ t = w at *
      generalize d ^ m = z at *
      generalize X 0 0 = p at *
      have e : s * (w * p * v) = w * p * (s * v) := by grind
      rw [e, h3] at this
      grind
    exact Int.eq_of_mul_eq_mul_left (Int.mul_ne_zero hp (pow_ne B.d0 _)) h4
end AT

/-! ## clearing rows: the whole matrix, the numbers' size -/
namespace AT
open PySem
def bt : Nat → Nat
  | 0 => 7
  | k + 1 => 2 * bt k + 1
theorem bt_pos : ∀ k, 0 < bt k
  | 0 => by decide
  | k + 1 => by show 0 < 2 * bt k + 1; omega
theorem bt_mono {i j : Nat} (h : i ≤ j) : bt i ≤ bt j := by
  induction h with
  | refl => exact Nat.le_refl _
  | step _ ih => exact Nat.le_trans ih (by show _ ≤ 2 * bt _ + 1; omega)
/-- the state at step k: the rows from k on are what is left -/
structure DI (n : Nat) (L : Int) (k : Nat) (R : Nat → Nat → Int) (d s : Int) : Prop where
  lt : k < n
  bar : Bar L (n - k) (fun i j => R (k + i) (k + j)) d s
  zer : ∀ i j, k ≤ i → i < n → j < k → R i j = 0
  bd : ∀ i j, k ≤ i → i < n → j < n → (R i j).natAbs < 2 ^ bt k
  db : d.natAbs < 2 ^ bt k
  sb : s.natAbs = 1
theorem DI.start {n : Nat} {f : Nat → Nat → Int} (hn : 1 ≤ n) (hb : ∀ i j, i < n → j < n → (f i j).natAbs < 2 ^ 7) : DI n (detL n f) 0 f 1 1 :=
  ⟨hn, by
    have : (fun i j => f (0 + i) (0 + j)) = f := funext fun i => funext fun j => by rw [Nat.zero_add, Nat.zero_add]
    rw [this, Nat.sub_zero]
    exact Bar.start, fun _ _ _ _ h => absurd h (Nat.not_lt_zero _), fun i j _ hi hj => hb i j hi hj, by decide, by decide⟩
theorem DI.none {n k : Nat} {L : Int} {R : Nat → Nat → Int} {d s : Int} (D : DI n L k R d s) (h : ∀ i, k ≤ i → i < n → R i k = 0) : L = 0 :=
  D.bar.zero (by have := D.lt; omega) fun i hi => h (k + i) (by omega) (by omega)
def exR (R : Nat → Nat → Int) (k a : Nat) : Nat → Nat → Int := fun i j => if i = a then R k j else if i = k then R a j else R i j
theorem DI.swap {n k a : Nat} {L : Int} {R : Nat → Nat → Int} {d s : Int} (D : DI n L k R d s) (hk : k < a) (ha : a < n) : DI n L k (exR R k a) d (0 - s) := by
  refine ⟨D.lt, ?_, fun i j hi hn hj => ?_, fun i j hi hn hj => ?_, D.db, ?_⟩
  · have h := D.bar.swap (p := a - k) (by omega) (by omega)
    have e : (fun i j => exR R k a (k + i) (k + j)) = setR (setR (fun i j => R (k + i) (k + j)) 0 fun j => R (k + (a - k)) (k + j)) (a - k) fun j => R (k + 0) (k + j) := funext fun i => funext fun j => by
      unfold exR setR
      by_cases e1 : i = a - k
      · rw [if_pos (by omega), if_pos e1]
        rfl
      · rw [if_neg (by omega), if_neg e1]
        by_cases e2 : i = 0
        · subst e2
          rw [if_pos (by omega), if_pos rfl, show k + (a - k) = a by omega]
        · rw [if_neg (by omega), if_neg e2]
    rw [e]
    exact h
  · unfold exR
    split
    · exact D.zer k j (Nat.le_refl _) D.lt hj
    · split
      · exact D.zer a j (by omega) ha hj
      · exact D.zer i j hi hn hj
  · unfold exR
    split
    · exact D.bd k j (Nat.le_refl _) D.lt hj
    · split
      · exact D.bd a j (by omega) ha hj
      · exact D.bd i j hi hn hj
  · have := D.sb
    omega
def xnR (R : Nat → Nat → Int) (d : Int) (k i j : Nat) : Int := (R k k * R i j - R i k * R k j).fdiv d
def mixR (R : Nat → Nat → Int) (d : Int) (k u : Nat) : Nat → Nat → Int := fun i j => if k < i ∧ i < u then xnR R d k i j else R i j
theorem DI.ex {n k i j : Nat} {L : Int} {R : Nat → Nat → Int} {d s : Int} (D : DI n L k R d s) (hi : k < i) (hin : i < n) (hj : j < n) : d * xnR R d k i j = R k k * R i j - R i k * R k j := by
  have key : ∀ c, R k k * R i j - R i k * R k j = d * c → d * xnR R d k i j = R k k * R i j - R i k * R k j := fun c hc => by
    unfold xnR
    rw [hc, Int.mul_fdiv_cancel_left _ D.bar.d0]
  by_cases h : j ≤ k
  · have e : R k k * R i j - R i k * R k j = 0 := by
      by_cases e : j = k
      · subst e
        grind
      · rw [D.zer i j (by omega) hin (by omega), D.zer k j (Nat.le_refl _) D.lt (by omega)]
        omega
    exact key 0 (by rw [e]; omega)
  · obtain ⟨c, hc⟩ := D.bar.exact (i := i - k - 1) (j := j - k - 1) (by omega) (by omega)
    unfold chioY at hc
    dsimp only at hc
    rw [show k + (i - k - 1 + 1) = i by omega, show k + (j - k - 1 + 1) = j by omega, Nat.add_zero] at hc
    exact key c hc
theorem nat_mul_lt {a b c e : Nat} (h1 : a < 2 ^ c) (h2 : b < 2 ^ e) : a * b < 2 ^ (c + e) := by
  rw [Nat.pow_add]
  exact Nat.lt_of_le_of_lt (Nat.mul_le_mul_right b (Nat.le_of_lt h1)) (Nat.mul_lt_mul_of_pos_left h2 (Nat.two_pow_pos c))
theorem DI.xbd {n k i j : Nat} {L : Int} {R : Nat → Nat → Int} {d s : Int} (D : DI n L k R d s) (hi : k < i) (hin : i < n) (hj : j < n) : (xnR R d k i j).natAbs < 2 ^ bt (k + 1) := by
  have h := D.ex hi hin hj
  have h1 := nat_mul_lt (D.bd k k (Nat.le_refl _) D.lt D.lt) (D.bd i j (by omega) hin hj)
  have h2 := nat_mul_lt (D.bd i k (by omega) hin D.lt) (D.bd k j (Nat.le_refl _) D.lt hj)
  rw [← Int.natAbs_mul] at h1 h2
  have h3 : (d * xnR R d k i j).natAbs < 2 ^ bt (k + 1) := by
    rw [h]
    have e : (2 : Nat) ^ bt (k + 1) = 2 ^ (bt k + bt k) + 2 ^ (bt k + bt k) := by
      show 2 ^ (2 * bt k + 1) = _
      rw [Nat.pow_succ, show 2 * bt k = bt k + bt k by omega]
      omega
    rw [e]
    omega
  rw [Int.natAbs_mul] at h3
  have hd : 1 ≤ d.natAbs := by
    have := D.bar.d0
    omega
  exact Nat.lt_of_le_of_lt (Nat.le_mul_of_pos_left _ hd) h3
theorem DI.step {n k : Nat} {L : Int} {R : Nat → Nat → Int} {d s : Int} (D : DI n L k R d s) (hp : R k k ≠ 0) (hk : k + 1 < n) : DI n L (k + 1) (mixR R d k n) (R k k) s := by
  have hm : ∀ i j, k < i → i < n → mixR R d k n i j = xnR R d k i j := fun i j h1 h2 => by
    unfold mixR
    rw [if_pos ⟨h1, h2⟩]
  refine ⟨hk, ?_, fun i j hi hn hj => ?_, fun i j hi hn hj => ?_, ?_, D.sb⟩
  · have B := D.bar
    rw [show n - k = (n - (k + 1)) + 1 by omega] at B
    have hp' : (fun i j => R (k + i) (k + j)) 0 0 ≠ 0 := hp
    have := B.step (X' := fun i j => mixR R d k n (k + 1 + i) (k + 1 + j)) hp' fun i j hi hj => by
      show d * mixR R d k n (k + 1 + i) (k + 1 + j) = _
      rw [hm _ _ (by omega) (by omega), D.ex (by omega) (by omega) (by omega)]
      unfold chioY
      dsimp only
      rw [show k + (i + 1) = k + 1 + i by omega, show k + (j + 1) = k + 1 + j by omega]
      rfl
    exact this
  · rw [hm _ _ (by omega) hn]
    have h := D.ex (i := i) (j := j) (by omega) hn (by have := D.lt; omega)
    have e : R k k * R i j - R i k * R k j = 0 := by
      by_cases e : j = k
      · subst e
        grind
      · rw [D.zer i j (by omega) hn (by omega), D.zer k j (Nat.le_refl _) D.lt (by omega)]
        omega
    rw [e] at h
    exact (Int.mul_eq_zero.mp h).resolve_left D.bar.d0
  · rw [hm _ _ (by omega) hn]
    exact D.xbd (by omega) hn hj
  · exact Nat.lt_of_lt_of_le (D.bd k k (Nat.le_refl _) D.lt D.lt) (Nat.pow_le_pow_right (by decide) (bt_mono (Nat.le_succ k)))
theorem DI.last {n k : Nat} {L : Int} {R : Nat → Nat → Int} {d s : Int} (D : DI n L k R d s) (hk : k + 1 = n) : s * R k k = L := by
  have B := D.bar
  rw [show n - k = 1 by omega] at B
  exact B.last
end AT

/-! ## determinant -/
namespace AT
open PySem PySem.Spec PyProof.Rows L2 Evl
def sp_determinant (K : Frag) : Sp := fun vs H Q _ => ∃ a n f, vs = [.ref a] ∧ LLI K H a (Fm n f) ∧ 1 ≤ n ∧ n ≤ 6 ∧ (∀ i j, i < n → j < n → (f i j).natAbs < 2 ^ 7) ∧ ∀ H', Ex H H' → Q (.int (detL n f)) H'
theorem fm_set {n i : Nat} {R R' : Nat → Nat → Int} {w : Nat → Int} (hw : ∀ j, j < n → R' i j = w j) (ho : ∀ a j, a < n → a ≠ i → j < n → R' a j = R a j) : (Fm n R).set i ((List.range n).map w) = Fm n R' := by
  refine List.ext_getElem? fun a => ?_
  by_cases h : a < n
  · rw [fm_get h]
    by_cases e : a = i
    · subst e
      rw [List.getElem?_set_self (by rw [fm_len]; exact h)]
      exact congrArg some (List.map_congr_left fun j hj => (hw j (List.mem_range.mp hj)).symm)
    · rw [List.getElem?_set_ne (Ne.symm e), fm_get h]
      exact congrArg some (List.map_congr_left fun j hj => (ho a j h e (List.mem_range.mp hj)).symm)
  · rw [List.getElem?_eq_none (by rw [List.length_set, fm_len]; omega), List.getElem?_eq_none (by rw [fm_len]; omega)]
theorem bt6 {k : Nat} (h : k ≤ 6) : bt k ≤ 511 := Nat.le_trans (bt_mono h) (by decide)
section
variable {P : Program} {w : World} {K : Frag} {mg : Str → Option Value} {base : Heap} {k : Nat}
theorem ok_determinant (T : Txt K mg) : FnOk P w K mg base CX0 (k + 1) T.f_determinant T.d_determinant ["form"] (sp_determinant K) := by
  refine T.F_determinant.ok sc_determinant (fun vs H Q E h => ?_) (fun cdv A outer s H vs Q E hr h => ?_)
  · obtain ⟨a, n, f, rfl, _⟩ := h
    rfl
  · obtain ⟨a, n, f, rfl, hM, hn1, hn6, hb, q⟩ := h
    refine ⟨_, (pss_cons (ps_set (i := 1) sc_determinant.nd rfl (.inr rfl) (pe_lc (own := [("row", 9)]) rfl sc_determinant.nd (pi_listK K (pv 0)) (blkOk_by (own := [("row", 9)]) (N := N_determinant) (sc := defScope s_determinant) (by decide +kernel)) (fun _ _ _ _ _ => (pg_name (i := 9) sc_determinant.nd rfl (.inl rfl))) (fun _ _ _ _ _ => pts_nil) (fun _ _ _ _ _ => (pe_callTy (listK K) rfl T.b_list (by decide +kernel) (pa_cons (pv 9) pa_nil)))))
      (pss_cons (ps_set (i := 2) sc_determinant.nd rfl (.inl rfl) pe_int)
      (pss_cons (ps_set (i := 3) sc_determinant.nd rfl (.inr rfl) pe_int)
      (pss_cons (ps_for PassesOwn.never rfl (pi_range1 rfl T.b_range (pa_cons (pe_callB (lenK K) rfl T.b_len PySem.boot_len (pa_cons (pv 1) pa_nil)) pa_nil)) (pg_name (i := 4) sc_determinant.nd rfl (.inr rfl))
        (pss_cons (ps_set (i := 5) sc_determinant.nd rfl (.inl rfl) (pv 4))
      (pss_cons (ps_while PassesOwn.never (PW.pt (pw_and (pt_cmpR op_lt (pv 5) (pe_callB (lenK K) rfl T.b_len PySem.boot_len (pa_cons (pv 1) pa_nil)) (nomark _)) (pw_and1 (pt_cmpR op_eq (pe_ix (ixL K) (pe_ix (ixL K) (pv 1) (pv 5) (fun _ _ => rfl)) (pv 4) (fun _ _ => rfl)) pe_int (nomark _)))))
        (pss_one (ps_set (i := 5) sc_determinant.nd rfl (.inl rfl) (pe_op op_add (pv 5) pe_int))))
      (pss_cons (ps_if (pt_cmpR op_eq (pv 5) (pe_callB (lenK K) rfl T.b_len PySem.boot_len (pa_cons (pv 1) pa_nil)) (nomark _))
        (pss_one (ps_ret pe_int))
        pss_nil)
      (pss_cut (ps_if (pt_cmpR op_gt (pv 5) (pv 4) (nomark _))
        (pss_cons (ps_set (i := 6) sc_determinant.nd rfl (.inl rfl) (pe_ix (ixL K) (pv 1) (pv 4) (fun _ _ => rfl)))
      (pss_cons (ps_asg (pe_ix (ixL K) (pv 1) (pv 5) (fun _ _ => rfl)) (pg_sub (pv 1) (pv 4) set_list))
      (pss_cons (ps_asg (pv 6) (pg_sub (pv 1) (pv 5) set_list))
      (pss_one (ps_set (i := 2) sc_determinant.nd rfl (.inl rfl) (pe_op op_sub pe_int (pv 2)))))))
        pss_nil)
      (pss_cons (ps_for PassesOwn.never rfl (pi_range2 rfl T.b_range (pa_cons (pe_op op_add (pv 4) pe_int) (pa_cons (pe_callB (lenK K) rfl T.b_len PySem.boot_len (pa_cons (pv 1) pa_nil)) pa_nil))) (pg_name (i := 7) sc_determinant.nd rfl (.inl rfl))
        (pss_cons (ps_set (i := 8) sc_determinant.nd rfl (.inr rfl) (pe_ix (ixL K) (pe_ix (ixL K) (pv 1) (pv 7) (fun _ _ => rfl)) (pv 4) (fun _ _ => rfl)))
      (pss_one (ps_asg (pe_lc (own := [("one", 10), ("other", 11)]) rfl sc_determinant.nd (pi_zipK K rfl T.b_zip (pa_cons (pe_ix (ixL K) (pv 1) (pv 7) (fun _ _ => rfl)) (pa_cons (pe_ix (ixL K) (pv 1) (pv 4) (fun _ _ => rfl)) pa_nil))) (blkOk_by (own := [("one", 10), ("other", 11)]) (N := N_determinant) (sc := defScope s_determinant) (by decide +kernel)) (fun _ _ _ _ _ => (pg_tupK K (n := 2) rfl (pgs_cons (pg_name (i := 10) sc_determinant.nd rfl (.inl rfl)) (pgs_cons (pg_name (i := 11) sc_determinant.nd rfl (.inl rfl)) pgs_nil)))) (fun _ _ _ _ _ => pts_nil) (fun _ _ _ _ _ => (pe_op op_fdivX (pe_op op_sub (pe_op op_mulW (pe_ix (ixL K) (pe_ix (ixL K) (pv 1) (pv 4) (fun _ _ => rfl)) (pv 4) (fun _ _ => rfl)) (pv 10)) (pe_op op_mulW (pv 8) (pv 11))) (pv 3)))) (pg_sub (pv 1) (pv 7) set_list)))))
      (pss_one (ps_set (i := 3) sc_determinant.nd rfl (.inr rfl) (pe_ix (ixL K) (pe_ix (ixL K) (pv 1) (pv 4) (fun _ _ => rfl)) (pv 4) (fun _ _ => rfl))))))))))
      (pss_one (ps_ret (pe_op op_mulW (pv 2) (pv 3)))))))), ?_⟩
    refine qr_asg (R := RM (Fm n f)) ?_ fun v H1 e1 ⟨p, hv, hO⟩ => ?_
    · obtain ⟨as, hA, hP⟩ := id hM
      have hlen := hP.length
      have := em_lcL (K := K) (te := tCB (rListS K) (tCons (tVar 9) tNil)) (fun i => (Fm n f).getD i []) (ev_var (σ := [some (V.ref a), none, none, none, none, none, none, none, none, none, none, none]) (i := 0) (H := H) rfl) hA (by rw [List.length_map, hlen, fm_len]; omega) (fun _ => rfl) (fun i x H1 e1 hx => er_of_evl ?_) (j := 9) (vs := [9])
      · rw [List.length_map, hlen, ← list_eq_range] at this
        exact this
      · rw [List.getElem?_map] at hx
        cases hy : as[i]? with
        | none => rw [hy] at hx; cases hx
        | some y =>
          rw [hy] at hx
          cases hx
          obtain ⟨r, h1, h2⟩ := paired_getL hP hy
          rw [List.getD_eq_getElem?_getD, h1]
          exact el_list (ev_var rfl) (h2.mono e1)
    subst hv
    refine q_asg ev_c fun H2 e2 => q_asg ev_c fun H3 e3 => ?_
    have hRA : RA H H3 p (Fm n f) := (hO.ra.mono e2).mono e3
    have eH3 := (e1.trans e2).trans e3
    refine q_forR1 (n := (n : Int)) (ea_cons (ev_lenFm (ev_var rfl) hRA.lli) ea_nil) (by omega) (fun k σ' H' => ∃ s d x4 x5 x6 x7 x8, σ' = [some (.ref a), some (.ref p), some (.int s), some (.int d), x4, x5, x6, x7, x8, none, none, none] ∧ Ex H H' ∧
        ((k < n ∧ ∃ R, RA H H' p (Fm n R) ∧ DI n (detL n f) k R d s) ∨ (k = n ∧ s * d = detL n f ∧ s.natAbs = 1 ∧ d.natAbs < 2 ^ 511)))
      (fun H4 e4 => ⟨1, 1, _, _, _, _, _, rfl, eH3.trans e4, .inl ⟨by omega, f, hRA.mono e4, DI.start hn1 hb⟩⟩) (fun k σ' H' hk hP => ?_) (fun σ' H' hP => ?_)
    · obtain ⟨s, d, x4, x5, x6, x7, x8, rfl, eH, hI⟩ := hP
      have hkn : k < n := by omega
      obtain ⟨_, R, hR, hD⟩ := hI.resolve_right (by omega)
      have hbk := bt6 (k := k) (by omega)
      refine q_asg (ev_var rfl) fun H4 e4 => ?_
      have hR4 := hR.mono e4
      refine q_while (fun m σ2 H2 => ∃ at_ : Nat, m = n - at_ ∧ k ≤ at_ ∧ at_ ≤ n ∧ σ2 = [some (.ref a), some (.ref p), some (.int s), some (.int d), some (.int (k : Int)), some (.int (at_ : Int)), x6, x7, x8, none, none, none] ∧ Ex H4 H2 ∧ ∀ i, k ≤ i → i < at_ → R i k = 0) (n - k)
        ⟨k, rfl, Nat.le_refl _, by omega, rfl, Ex.refl _, fun i h1 h2 => absurd h1 (by omega)⟩ fun m σ2 H2 hW => ?_
      obtain ⟨u, rfl, hu1, hu2, rfl, e5, hz⟩ := hW
      have hR5 := hR4.mono e5
      refine ⟨decide ((u : Int) < (n : Int)) && decide (V.int (R u k) = V.int 0), et_and (et_test (ev_op (ev_var rfl) (ev_lenFm (ev_var rfl) hR5.lli) rv_I0)) fun hb => et_test (ev_op (ev_fm (n := n) (f := R) (i := u) (j := k) (ev_var rfl) (ev_var rfl) (ev_var rfl) hR5.lli (by rw [decide_eq_true_eq] at hb; omega) hkn) ev_c (rv_eq rfl)), fun hb H6 e6 => ?_, fun hb H6 e6 => ?_⟩
      · simp only [Bool.and_eq_true, decide_eq_true_eq] at hb
        refine ⟨fun σ3 H3 => ∃ at_ : Nat, n - (u + 1) = n - at_ ∧ k ≤ at_ ∧ at_ ≤ n ∧ σ3 = [some (.ref a), some (.ref p), some (.int s), some (.int d), some (.int (k : Int)), some (.int (at_ : Int)), x6, x7, x8, none, none, none] ∧ Ex H4 H3 ∧ ∀ i, k ≤ i → i < at_ → R i k = 0, fun σ3 H3 h => ⟨n - (u + 1), by omega, h⟩, ?_⟩
        refine s_asg (ev_op (ev_var rfl) ev_c rv_I0) fun H7 e7 => ⟨u + 1, rfl, by omega, by omega, rfl, (e5.trans e6).trans e7, fun i h1 h2 => ?_⟩
        by_cases e : i = u
        · rw [e]
          have := hb.2
          injection this
        · exact hz i h1 (by omega)
      · have hR6 := hR5.mono e6
        refine q_when (et_test (ev_op (ev_var rfl) (ev_lenFm (ev_var rfl) hR6.lli) (rv_eq rfl))) (fun hc H7 e7 => s_ret ev_c fun H8 e8 => ?_) (fun hc H7 e7 => ?_)
        · rw [decide_eq_true_eq] at hc
          have hun : u = n := by injection hc with hc; omega
          have := hD.none fun i h1 h2 => hz i h1 (by omega)
          have q' := q H8 ((((eH.trans e4).trans e5).trans e6).trans (e7.trans e8))
          rw [this] at q'
          exact q'
        · have hun : u < n := by
            rcases Nat.lt_or_ge u n with h | h
            · exact h
            · have : u = n := by omega
              rw [this] at hc
              simp at hc
          have hRu : R u k ≠ 0 := fun z => by
            rw [z, decide_eq_true (show (u : Int) < (n : Int) by omega), decide_eq_true rfl] at hb
            cases hb
          have e47 := (e5.trans e6).trans e7
          have hR7 := hR6.mono e7
          have eH7 := (eH.trans e4).trans e47
          refine q_cut (M := fun σ' H' => ∃ R s x6, σ' = [some (.ref a), some (.ref p), some (.int s), some (.int d), some (.int (k : Int)), some (.int (u : Int)), x6, x7, x8, none, none, none] ∧ Ex H H' ∧ RA H H' p (Fm n R) ∧ DI n (detL n f) k R d s ∧ R k k ≠ 0) ?_ fun σ' H8 hP => ?_
          · refine s_when (et_test (ev_op (ev_var rfl) (ev_var rfl) rv_I0)) (fun hg H8 e8 => ?_) (fun hg H8 e8 => ?_)
            · rw [decide_eq_true_eq] at hg
              have hku : k < u := by omega
              have hR8 := hR7.mono e8
              obtain ⟨h0, as, h1, h2, h3⟩ := id hR8
              obtain ⟨x, hx1, hx2⟩ := paired_get h3 (fm_get hkn)
              obtain ⟨y, hy1, hy2⟩ := paired_get h3 (fm_get hun)
              have hxp : x ≠ p := fun z => h2 (z ▸ List.mem_of_getElem? hx1)
              have hyp : y ≠ p := fun z => h2 (z ▸ List.mem_of_getElem? hy1)
              refine q_asg (ev_op (ev_var rfl) (ev_var rfl) (rv_ixL (sq_of h1) (atI_n (by rw [List.getElem?_map, hx1]; rfl)))) fun H9 e9 => ?_
              refine q_setRef (i := k) (hR8.mono e9) (ev_op (ev_var rfl) (ev_var rfl) (rv_ixL (sq_of (e9 _ _ h1)) (atI_n (by rw [List.getElem?_map, hy1]; rfl)))) (e9 _ _ hy2) hyp (ev_var rfl) (ev_var rfl) (by rw [fm_len]; exact hkn) ((eH7.trans e8).trans e9) fun H10 e10 hR10 hk10 => ?_
              refine q_setRef (i := u) hR10 (ev_var rfl) (hk10 _ _ hxp (e9 _ _ hx2)) hxp (ev_var rfl) (ev_var rfl) (by rw [List.length_set, fm_len]; exact hun) e10 fun H11 e11 hR11 _ => ?_
              refine s_asg (ev_op ev_c (ev_var rfl) rv_I0) fun H12 e12 => ⟨exR R k u, 0 - s, _, rfl, e11.trans e12, ?_, hD.swap hku hun, ?_⟩
              · have e1 : (Fm n R).set k ((List.range n).map (R u)) = Fm n (fun i j => if i = k then R u j else R i j) := fm_set (fun j _ => if_pos rfl) fun a j _ hne _ => if_neg hne
                rw [e1, fm_set (R' := exR R k u) (fun j _ => by unfold exR; rw [if_pos rfl]) fun a j _ hne _ => by unfold exR; rw [if_neg hne]] at hR11
                exact hR11.mono e12
              · unfold exR
                rw [if_neg (by omega), if_pos rfl]
                exact hRu
            · rw [decide_eq_false_iff_not] at hg
              have : u = k := by omega
              subst this
              exact ⟨R, s, _, rfl, eH7.trans e8, hR7.mono e8, hD, hRu⟩
          · clear hRu hz hb hR7 hR6 hR5 hR4 hR hD hI
            obtain ⟨R, s, x6, rfl, eH8, hR8, hD, hp⟩ := hP
            refine q_forR2 (lo := (k : Int) + 1) (n := (n : Int)) (ea_cons (ev_op (ev_var rfl) ev_c rv_I0) (ea_cons (ev_lenFm (ev_var rfl) hR8.lli) ea_nil)) (by omega) (fun t σ' H' => ∃ x7 x8, σ' = [some (.ref a), some (.ref p), some (.int s), some (.int d), some (.int (k : Int)), some (.int (u : Int)), x6, x7, x8, none, none, none] ∧ Ex H H' ∧ RA H H' p (Fm n (mixR R d k (k + 1 + t))))
              (fun H9 e9 => ⟨_, _, rfl, eH8.trans e9, ?_⟩) (fun t σ' H9 ht hP => ?_) (fun σ' H9 hP => ?_)
            · have : Fm n (mixR R d k (k + 1 + 0)) = Fm n R := fm_ext fun i j _ _ => by unfold mixR; rw [if_neg (by omega)]
              rw [this]
              exact hR8.mono e9
            · obtain ⟨x7, x8, rfl, eH9, hR9⟩ := hP
              have hin : k + 1 + t < n := by omega
              have ei : (k : Int) + 1 + (t : Int) = ((k + 1 + t : Nat) : Int) := by omega
              rw [ei]
              generalize hi : k + 1 + t = i at *
              have hki : k < i := by omega
              have hMi : mixR R d k i i = R i := funext fun j => by unfold mixR; rw [if_neg (by omega)]
              have hMk : mixR R d k i k = R k := funext fun j => by unfold mixR; rw [if_neg (by omega)]
              refine q_asg (ev_fm (n := n) (f := mixR R d k i) (i := i) (j := k) (ev_var rfl) (ev_var rfl) (ev_var rfl) hR9.lli hin hkn) fun H10 e10 => ?_
              have hR10 := hR9.mono e10
              obtain ⟨h0, as, h1, h2, h3⟩ := id hR10
              obtain ⟨x, hx1, hx2⟩ := paired_get h3 (fm_get hin)
              obtain ⟨y, hy1, hy2⟩ := paired_get h3 (fm_get hkn)
              rw [hMi] at hx2
              rw [hMk] at hy2
              have hbR := hD.bd
              have hcell : ∀ j : Nat, j < n → ∀ (σ : St) (H11 : Hp), Ex H10 H11 → σ[1]? = some (some (V.ref p)) → σ[4]? = some (some (.int (k : Int))) → σ[8]? = some (some (.int (mixR R d k i i k))) → σ[3]? = some (some (.int d)) → σ[10]? = some (some (.int (R i j))) → σ[11]? = some (some (.int (R k j))) →
                  Ev (tOp (rI CFdX fun i j => .int (i.fdiv j)) (tOp (rI0 fun i j => .int (i - j)) (tOp (rI CMulW fun i j => .int (i * j)) (tOp (rIxL K) (tOp (rIxL K) (tVar 1) (tVar 4)) (tVar 4)) (tVar 10)) (tOp (rI CMulW fun i j => .int (i * j)) (tVar 8) (tVar 11))) (tVar 3)) σ H11 (.int (xnR R d k i j)) := fun j hj σ H11 e11 s1 s4 s8 s3 s10 s11 => by
                have hkk : Ev (tOp (rIxL K) (tOp (rIxL K) (tVar 1) (tVar 4)) (tVar 4)) σ H11 (.int (R k k)) := by
                  have := ev_fm (K := K) (n := n) (f := mixR R d k i) (i := k) (j := k) (ev_var s1) (ev_var s4) (ev_var s4) (hR10.mono e11).lli hkn hkn
                  rw [hMk] at this
                  exact this
                rw [hMi] at s8
                refine ev_op (ev_op (ev_op hkk (ev_var s10) (rv_I (wide_mul (hbR k k (Nat.le_refl _) hkn hkn) (hbR i j (by omega) hin hj) (bt_pos k) (bt_pos k) (by omega)))) (ev_op (ev_var s8) (ev_var s11) (rv_I (wide_mul (hbR i k (by omega) hin hkn) (hbR k j (Nat.le_refl _) hkn hj) (bt_pos k) (bt_pos k) (by omega)))) rv_I0) (ev_var s3) (rv_I ?_)
                exact ⟨hD.bar.d0, Nat.lt_of_lt_of_le (PySem.Flt.log2_lt_of (bt_pos k) hD.db) (by omega)⟩
              refine s_setRow (i := i) (row := (List.range n).map (xnR R d k i)) hR10 ?_ (ev_var rfl) (ev_var rfl) (by rw [fm_len]; exact hin) (eH9.trans e10) fun H11 e11 hR11 => ⟨_, _, rfl, e11, ?_⟩
              · have := el_lcZ (K := K) (te := tOp (rI CFdX fun i j => .int (i.fdiv j)) (tOp (rI0 fun i j => .int (i - j)) (tOp (rI CMulW fun i j => .int (i * j)) (tOp (rIxL K) (tOp (rIxL K) (tVar 1) (tVar 4)) (tVar 4)) (tVar 10)) (tOp (rI CMulW fun i j => .int (i * j)) (tVar 8) (tVar 11))) (tVar 3)) (i1 := 10) (i2 := 11) (vs := [10, 11]) (a := x) (b := y)
                  (σ := [some (V.ref a), some (.ref p), some (.int s), some (.int d), some (.int (k : Int)), some (.int (u : Int)), x6, some (.int (i : Int)), some (.int (mixR R d k i i k)), none, none, none]) (H := H10)
                  (tA := tCons (tOp (rIxL K) (tVar 1) (tVar 7)) (tCons (tOp (rIxL K) (tVar 1) (tVar 4)) tNil)) (fun j => .int (xnR R d k i j))
                  (ea_cons (ev_op (ev_var rfl) (ev_var rfl) (rv_ixL (sq_of h1) (atI_n (by rw [List.getElem?_map, hx1]; rfl)))) (ea_cons (ev_op (ev_var rfl) (ev_var rfl) (rv_ixL (sq_of h1) (atI_n (by rw [List.getElem?_map, hy1]; rfl)))) ea_nil))
                  (sq_of hx2) (sq_of hy2) (by simp) (by simp; omega) (fun _ _ => rfl) (fun j v1 v2 H11 e11 hv1 hv2 => ?_)
                · rw [List.length_map, List.length_map, List.length_range, given_all] at this
                  exact this
                · have hj : j < n := by
                    have := (List.getElem?_eq_some_iff.mp hv1).1
                    simpa using this
                  rw [List.getElem?_map, List.getElem?_map, List.getElem?_range hj] at hv1 hv2
                  cases hv1
                  cases hv2
                  exact hcell j hj _ H11 e11 rfl rfl rfl rfl rfl rfl
              · have e : (Fm n (mixR R d k i)).set i ((List.range n).map (xnR R d k i)) = Fm n (mixR R d k (k + 1 + (t + 1))) := fm_set (fun j _ => by unfold mixR; rw [if_pos (by omega)]) fun a' j _ hne _ => by
                  unfold mixR
                  by_cases h : k < a' ∧ a' < i
                  · rw [if_pos h, if_pos (by omega)]
                  · rw [if_neg h, if_neg (by omega)]
                rw [e] at hR11
                exact hR11
            · obtain ⟨x7, x8, rfl, eH9, hR9⟩ := hP
              have et : k + 1 + ((n : Int) - ((k : Int) + 1)).toNat = n := by omega
              rw [et] at hR9
              have hMk : mixR R d k n k = R k := funext fun j => by unfold mixR; rw [if_neg (by omega)]
              have hkk := ev_fm (K := K) (n := n) (f := mixR R d k n) (i := k) (j := k) (ev_var (σ := [some (V.ref a), some (.ref p), some (.int s), some (.int d), some (.int (k : Int)), some (.int (u : Int)), x6, x7, x8, none, none, none]) (i := 1) rfl) (ev_var (v := .int (k : Int)) (i := 4) rfl) (ev_var (v := .int (k : Int)) (i := 4) rfl) hR9.lli hkn hkn
              rw [hMk] at hkk
              refine s_asg hkk fun H10 e10 => ⟨s, R k k, _, _, _, _, _, rfl, eH9.trans e10, ?_⟩
              by_cases hl : k + 1 < n
              · exact .inl ⟨hl, _, hR9.mono e10, hD.step hp hl⟩
              · exact .inr ⟨by omega, hD.last (by omega), hD.sb, Nat.lt_of_lt_of_le (hD.bd k k (Nat.le_refl _) hkn hkn) (Nat.pow_le_pow_right (by decide) hbk)⟩
    · obtain ⟨s, d, x4, x5, x6, x7, x8, rfl, eH, hI⟩ := hP
      obtain ⟨_, h1, h2, h3⟩ := hI.resolve_left (by simp)
      refine s_ret (ev_op (ev_var rfl) (ev_var rfl) (rv_I (wide_mul (a := 1) (b := 511) (by omega) h3 (by decide) (by decide) (by decide)))) fun H4 e4 => ?_
      rw [h1]
      exact q H4 (eH.trans e4)
end
end AT

/-! ## step_of, kept -/
namespace AT
open PySem PySem.Spec PyProof.Rows L2 Evl
def gcdL (xs : List Int) : Nat := xs.foldl (fun g x => Nat.gcd g x.natAbs) 0
def stepsOf (n : Nat) (f : Nat → Nat → Int) : List Int := (Fm n f).map fun r => ((gcdL r : Nat) : Int)
def sp_step_of (K : Frag) : Sp := fun vs H Q _ => ∃ (a : Addr) (xs : List Int), vs = [.ref a] ∧ LI K H a xs ∧ xs.length ≤ 1000 ∧ ∀ H', Ex H H' → Q (.int ((gcdL xs : Nat) : Int)) H'
def RKept (n : Nat) (f : Nat → Nat → Int) : R3 := fun H1 H2 v => ∃ t p, v = .ref t ∧ H1 t = none ∧ H2 t = some (.tup [.int (detL n f), .ref p]) ∧ OLI H1 H2 p (stepsOf n f)
def sp_kept (K : Frag) (CF : Addr) : Sp := fun vs H Q E => ∃ a M, vs = [.ref a] ∧ LLI K H a M ∧ SmallM M ∧ (¬ IsForm M → ∀ H', Ex H H' → E (.ref CF) none H') ∧ (∀ n f, M = Fm n f → FormOf n f → ∀ H' v, Ex H H' → RKept n f H H' v → Q v H')
theorem mon_RKept {n : Nat} {f : Nat → Nat → Int} : Mon (RKept n f) := ⟨fun e ⟨t, p, h, h0, h1, h2⟩ => ⟨t, p, h, h0, e _ _ h1, h2.mono e⟩, fun e ⟨t, p, h, h0, h1, h2⟩ => ⟨t, p, h, fresh_back e h0, h1, h2.back e⟩⟩
theorem detL_fm {n : Nat} {f g : Nat → Nat → Int} (h : Fm n f = Fm n g) : detL n f = detL n g := by
  obtain ⟨_, e⟩ := fm_inj h
  exact detL_congr e
section
variable {P : Program} {w : World} {K : Frag} {mg : Str → Option Value} {base : Heap} {k : Nat}
theorem ok_step_of (T : Txt K mg) : FnOk P w K mg base CX0 (k + 1) T.f_step_of T.d_step_of ["row"] (sp_step_of K) := by
  refine T.F_step_of.ok sc_step_of (fun vs H Q E h => ?_) (fun cdv A outer s H vs Q E hr h => ?_)
  · obtain ⟨a, xs, rfl, _⟩ := h
    rfl
  · obtain ⟨a, xs, rfl, hL, hl, q⟩ := h
    refine ⟨_, (pss_cons (ps_set (i := 1) sc_step_of.nd rfl (.inl rfl) pe_int)
      (pss_cons (ps_for PassesOwn.never rfl (pi_listK K (pv 0)) (pg_name (i := 2) sc_step_of.nd rfl (.inl rfl))
        (pss_cons (ps_set (i := 3) sc_step_of.nd rfl (.inl rfl) (pe_callB absK rfl T.b_abs (by decide +kernel) (pa_cons (pv 2) pa_nil)))
      (pss_one (ps_while PassesOwn.never (pt_cmpR op_gt (pv 3) pe_int (nomark _))
        (pss_cons (ps_set (i := 4) sc_step_of.nd rfl (.inl rfl) (pe_op op_modN (pv 1) (pv 3)))
      (pss_cons (ps_set (i := 1) sc_step_of.nd rfl (.inl rfl) (pv 3))
      (pss_one (ps_set (i := 3) sc_step_of.nd rfl (.inl rfl) (pv 4)))))))))
      (pss_one (ps_ret (pv 1))))), ?_⟩
    refine q_asg ev_c fun H1 e1 => ?_
    refine q_forLn (a := a) (xs := xs.map V.int) (ev_var rfl) (hL.mono e1) (fun i σ' H' => ∃ x2 x3 x4, σ' = [some (.ref a), some (.int ((gcdL (xs.take i) : Nat) : Int)), x2, x3, x4] ∧ Ex H1 H')
      (fun H2 e2 => ⟨_, _, _, rfl, e2⟩) (fun i σ' H' _ hP => by obtain ⟨_, _, _, rfl, e⟩ := hP; exact hL.mono (e1.trans e)) (fun i x σ' H' hx hP => ?_) (fun σ' H' hP => ?_)
    · obtain ⟨x2, x3, x4, rfl, e⟩ := hP
      rw [List.getElem?_map] at hx
      cases hy : xs[i]? with
      | none => rw [hy] at hx; cases hx
      | some y =>
        rw [hy] at hx
        cases hx
        have hg : gcdL (xs.take (i + 1)) = Nat.gcd (gcdL (xs.take i)) y.natAbs := by
          unfold gcdL
          rw [List.take_add_one, hy, List.foldl_append]
          rfl
        refine q_asg (ev_abs (ev_var rfl)) fun H2 e2 => ?_
        rw [show (if y < 0 then -y else y) = ((y.natAbs : Nat) : Int) by split <;> omega]
        refine s_while (fun m σ2 H2 => ∃ g o x4, o = m ∧ σ2 = [some (.ref a), some (.int ((g : Nat) : Int)), some (.int y), some (.int ((o : Nat) : Int)), x4] ∧ Ex H1 H2 ∧ Nat.gcd g o = gcdL (xs.take (i + 1))) y.natAbs
          ⟨_, _, _, rfl, rfl, e.trans e2, hg.symm⟩ fun m σ2 H3 hW => ?_
        obtain ⟨g, o, x4, rfl, rfl, e3, hgo⟩ := hW
        refine ⟨_, et_test (ev_op (ev_var rfl) ev_c rv_I0), fun hb H4 e4 => ?_, fun hb H4 e4 => ?_⟩
        · rw [decide_eq_true_eq] at hb
          have ho : 0 < o := by omega
          refine ⟨fun σ2 H2 => ∃ g' o' x4, o' = g % o ∧ σ2 = [some (.ref a), some (.int ((g' : Nat) : Int)), some (.int y), some (.int ((o' : Nat) : Int)), x4] ∧ Ex H1 H2 ∧ Nat.gcd g' o' = gcdL (xs.take (i + 1)), fun σ2 H2 h => ⟨g % o, Nat.mod_lt _ ho, h⟩, ?_⟩
          refine q_asg (ev_mod (ev_var rfl) (ev_var rfl) (by omega)) fun H5 e5 => q_asg (ev_var rfl) fun H6 e6 => s_asg (ev_var rfl) fun H7 e7 => ?_
          refine ⟨o, g % o, _, rfl, by rw [Int.natCast_emod]; rfl, ((e3.trans e4).trans e5).trans (e6.trans e7), ?_⟩
          rw [← hgo, Nat.gcd_comm g o, Nat.gcd_rec o g, Nat.gcd_comm]
        · rw [decide_eq_false_iff_not] at hb
          have ho : o = 0 := by omega
          subst ho
          rw [Nat.gcd_zero_right] at hgo
          rw [← hgo]
          exact ⟨_, _, _, rfl, e3.trans e4⟩
    · obtain ⟨x2, x3, x4, rfl, e⟩ := hP
      refine s_ret (ev_var rfl) fun H2 e2 => ?_
      rw [List.length_map, List.take_length]
      exact q H2 ((e1.trans e).trans e2)
theorem ok_kept (T : Txt K mg) (G_must_form : FnOk P w K mg base (L2.CX P w) k T.f_must_form T.d_must_form ["form"] (sp_must_form K T.c_NoForm)) (G_determinant : FnOk P w K mg base CX0 k T.f_determinant T.d_determinant ["form"] (sp_determinant K))
    (G_step_of : FnOk P w K mg base CX0 k T.f_step_of T.d_step_of ["row"] (sp_step_of K)) : FnOk P w K mg base (L2.CX P w) (k + 1) T.f_kept T.d_kept ["form"] (sp_kept K T.c_NoForm) := by
  refine T.F_kept.okX sc_kept (fun vs H Q E h => ?_) (fun cdv A outer s H vs Q E hr h => ?_)
  · obtain ⟨a, M, rfl, _⟩ := h
    rfl
  · obtain ⟨a, M, rfl, hM, hs, q1, q2⟩ := h
    refine ⟨_, (pss_cons (ps_expr (pe_call G_must_form hr rfl T.m_must_form T.F_must_form.kp T.b_must_form .nil (passes_call (takes_of rfl rfl rfl rfl) (fun _ _ _ _ h => h)) (pa_cons (pv 0) pa_nil)))
      (pss_one (ps_ret (pe_tup (pa_cons (pe_call G_determinant hr rfl T.m_determinant T.F_determinant.kp T.b_determinant .nil pass0 (pa_cons (pv 0) pa_nil)) (pa_cons (pe_lc (own := [("row", 1)]) rfl sc_kept.nd (pi_listK K (pv 0)) (blkOk_by (own := [("row", 1)]) (N := N_kept) (sc := defScope s_kept) (by decide +kernel)) (fun _ _ _ _ _ => (pg_name (i := 1) sc_kept.nd rfl (.inl rfl))) (fun _ _ _ _ _ => pts_nil) (fun _ _ _ _ _ => (pe_call G_step_of hr rfl T.m_step_of T.F_step_of.kp T.b_step_of .nil pass0 (pa_cons (pv 1) pa_nil)))) pa_nil)))))), ?_⟩
    refine ⟨.ref a, rfl, a, M, rfl, hM, hs, fun H1 e1 => ⟨fun hF => ?_, fun hF => q1 hF H1 e1⟩⟩
    obtain ⟨n, f, rfl, hf⟩ := hF
    have hn1 := hf.1
    have hn6 := hf.2.1
    have hM1 := hM.mono e1
    have hd : Ev (tCall (sp_determinant K) [] E0 (tCons (tVar 0) tNil)) [some (V.ref a), none] H1 (.int (detL n f)) := ev_call (ea_cons (ev_var rfl) ea_nil) fun G1 g1 Q' q' E' => ⟨a, n, f, rfl, hM1.mono g1, hn1, hn6, fun i j hi hj => (hf.bits).2.2 i j hi hj, q'⟩
    have hc : EvL (tLc (iList K (tVar 0)) (gName 1) tYes (tCall (sp_step_of K) [] E0 (tCons (tVar 1) tNil)) [1]) [some (V.ref a), none] H1 ((stepsOf n f).map V.int) :=
      el_lcRows (fun r => ((gcdL r : Nat) : Int)) (ev_var rfl) hM1 (by rw [fm_len]; omega) (fun _ => rfl) fun x r G1 g1 hr hx => ev_call (ea_cons (ev_var (v := .ref x) rfl) ea_nil) fun G2 g2 Q' q' E' => ⟨x, r, rfl, hx.mono g2, (small_fm (n := n) (f := f) (by omega)).2 r hr, q'⟩
    refine hd H1 (Ex.refl _) _ fun H2 e2 => hc H2 e2 _ fun p H3 hp e3 hp3 => ⟨by show 2 ≤ sizeLine; decide, fun t ht => ?_⟩
    refine q2 n f rfl hf _ _ (((e1.trans e2).trans e3).trans (Ex.new ht)) ⟨t, p, rfl, fresh_back ((e1.trans e2).trans e3) ht, upd_same, fresh_back (e1.trans e2) hp, (Ex.new ht) _ _ hp3⟩
end
end AT

/-! ## the law's own sum and steps -/
namespace AT
open PySem PySem.Spec PyProof.Rows L2 Evl
def sp__law_sum (K : Frag) : Sp := fun vs H Q _ => ∃ a n f, vs = [.ref a] ∧ LLI K H a (Fm n f) ∧ n ≤ 6 ∧ (∀ i j, i < n → j < n → (f i j).natAbs < 2 ^ 7) ∧ ∀ H', Ex H H' → Q (.int (detL n f)) H'
def sp__law_step (K : Frag) : Sp := fun vs H Q _ => ∃ (a : Addr) (xs : List Int), vs = [.ref a] ∧ LI K H a xs ∧ xs ≠ [] ∧ xs.length ≤ 1000 ∧ (∀ x, x ∈ xs → x.natAbs ≤ 1000) ∧ ∀ H', Ex H H' → Q (.int ((gcdL xs : Nat) : Int)) H'
def sp__law_whole : Sp := fun vs H Q _ => ∃ i, vs = [.int i] ∧ ∀ H', Ex H H' → Q (.bl true) H'
theorem sumL_snoc (l : List Int) (x : Int) : sumL (l ++ [x]) = sumL l + x := by
  induction l with
  | nil => simp [sumL]
  | cons y l ih =>
    show y + sumL (l ++ [x]) = y + sumL l + x
    rw [ih]; omega
theorem prodL_snoc (l : List Int) (x : Int) : prodL (l ++ [x]) = prodL l * x := by
  induction l with
  | nil => simp [prodL]
  | cons y l ih =>
    show y * prodL (l ++ [x]) = y * prodL l * x
    rw [ih, Int.mul_assoc]
theorem prN_back (n : Nat) (h : Nat → Int) : prN (n + 1) h = prN n h * h n := by
  unfold prN
  rw [List.range_succ, List.map_append]
  exact prodL_snoc _ _
theorem foldl_gcd_dvd : ∀ (xs : List Int) (g : Nat), xs.foldl (fun g x => Nat.gcd g x.natAbs) g ∣ g ∧ ∀ x ∈ xs, xs.foldl (fun g x => Nat.gcd g x.natAbs) g ∣ x.natAbs
  | [], g => ⟨Nat.dvd_refl _, fun x h => by cases h⟩
  | y :: xs, g => by
    obtain ⟨h1, h2⟩ := foldl_gcd_dvd xs (Nat.gcd g y.natAbs)
    refine ⟨Nat.dvd_trans h1 (Nat.gcd_dvd_left _ _), fun x hx => ?_⟩
    rcases List.mem_cons.mp hx with rfl | hx
    · exact Nat.dvd_trans h1 (Nat.gcd_dvd_right _ _)
    · exact h2 x hx
theorem dvd_foldl_gcd {d : Nat} : ∀ (xs : List Int) (g : Nat), d ∣ g → (∀ x ∈ xs, d ∣ x.natAbs) → d ∣ xs.foldl (fun g x => Nat.gcd g x.natAbs) g
  | [], g, h, _ => h
  | y :: xs, g, h, h2 => dvd_foldl_gcd xs _ (Nat.dvd_gcd h (h2 y List.mem_cons_self)) fun x hx => h2 x (List.mem_cons_of_mem _ hx)
theorem gcdL_dvd {xs : List Int} {x : Int} (h : x ∈ xs) : gcdL xs ∣ x.natAbs := (foldl_gcd_dvd xs 0).2 x h
theorem dvd_gcdL {xs : List Int} {d : Nat} (h : ∀ x ∈ xs, d ∣ x.natAbs) : d ∣ gcdL xs := dvd_foldl_gcd xs 0 (Nat.dvd_zero d) h
section
variable {P : Program} {w : World} {K : Frag} {mg : Str → Option Value} {base : Heap} {k : Nat}
theorem q_forN {σ : St} {H : Hp} {D : Ends} {n : Nat} {tn : TE} {g : TG} {tu tz : TS} (hn : Ev tn σ H (.int (n : Int))) (h6 : n ≤ 6)
    (kk : ∀ H1, Ex H H1 → ∃ Pv : Nat → St → Hp → Prop, (∀ H2, Ex H1 H2 → Pv 0 σ H2) ∧ (∀ i σ' H', Pv i σ' H' → Ex H1 H') ∧
      (∀ i c ps σ' H', (allAt n n)[i]? = some ps → Names n ps → (∀ H2, Ex H' H2 → LI K H2 c (nI ps)) → Pv i σ' H' → g (.ref c) σ' H' fun σ2 H2 => tu { D with nx := Pv (i + 1), ct := Pv (i + 1), bk := tz D } σ2 H2) ∧
      (∀ σ' H', Pv (allAt n n).length σ' H' → tz D σ' H')) :
    tSeq (tFor (iList K (tCall sp__law_all_names [] E0 (tCons tn tNil))) g tu) tz D σ H := by
  refine sp_names_er hn h6 H (Ex.refl _) _ fun v H1 e1 ⟨p, hv, hp, as, hA, hAP⟩ => ?_
  subst hv
  obtain ⟨Pv, h0, hx, hs, hd⟩ := kk H1 e1
  have hal : as.length = (allAt n n).length := by rw [hAP.length, List.length_map]
  refine ⟨p, rfl, ⟨_, sq_of hA⟩, for_list (xs := as.map V.ref) Pv (h0 H1 (Ex.refl _)) (fun i σ' H' _ hP => sq_of (hx i σ' H' hP _ _ hA)) (fun i x σ' H' hxi hP => ?_) (fun σ' H' hP => hd σ' H' (by rw [List.length_map, hal] at hP; exact hP))⟩
  rw [List.getElem?_map] at hxi
  cases hax : as[i]? with
  | none => rw [hax] at hxi; cases hxi
  | some c =>
    rw [hax] at hxi
    cases hxi
    obtain ⟨r, hr1, hr2⟩ := paired_getL hAP hax
    rw [List.getElem?_map] at hr1
    cases hps : (allAt n n)[i]? with
    | none => rw [hps] at hr1; cases hr1
    | some ps =>
      rw [hps] at hr1
      cases hr1
      exact hs i c ps σ' H' hps (names_allAt (List.mem_of_getElem? hps)) (fun H2 e2 => sq_of ((hx i σ' H' hP).trans e2 _ _ hr2)) hP
theorem prN_bd {n i : Nat} {f : Nat → Nat → Int} {ps : List Nat} (hb : ∀ i j, i < n → j < n → (f i j).natAbs < 2 ^ 7) (h : Names n ps) (hi : i ≤ n) : (prN i fun k => f k (ps.getD k 0)).natAbs < 2 ^ (7 * i + 1) := by
  induction i with
  | zero =>
    show (1 : Int).natAbs < 2 ^ 1
    decide
  | succ i ih =>
    rw [prN_back, Int.natAbs_mul]
    have h1 := nat_mul_lt (ih (by omega)) (hb i (ps.getD i 0) (by omega) (names_getD h (by omega)).1)
    rw [show 7 * (i + 1) + 1 = 7 * i + 1 + 7 by omega]
    exact h1
theorem s_forDown {σ : St} {H : Hp} {D : Ends} {ta : TA} {j : Nat} {tu : TS} {top : Nat} (h : EvA ta σ H [.int (top : Int), .int 0, .int (-1)]) (ht : top ≤ 100000) (Pv : Nat → St → Hp → Prop) (h0 : ∀ H1, Ex H H1 → Pv 0 σ H1)
    (hs : ∀ (i : Nat) σ' H', i < top → Pv i σ' H' → tu { D with nx := Pv (i + 1), ct := Pv (i + 1), bk := D.nx } (σ'.set j (some (.int ((top - i : Nat) : Int)))) H') (hd : ∀ σ' H', Pv top σ' H' → D.nx σ' H') : tFor (iRng3 ta) (gName j) tu D σ H :=
  h H (Ex.refl H) _ fun H1 e => ⟨(top : Int), 0, -1, top, rfl, by have := RgC.neg (i := (top : Int)) (j := 0) (by omega) (by omega) (by omega) (by omega); simpa using this,
    for_it (walk_rangeC (lo := (top : Int)) (c := -1) (n := top)) Pv (h0 H1 e) (fun _ _ _ _ _ => trivial) (fun i x σ' H' H'' hi p hy => by
      obtain ⟨rfl, rfl⟩ := hy
      have e0 : (top : Int) + (i : Int) * -1 = ((top - i : Nat) : Int) := by omega
      show tu _ (σ'.set j (some (.int ((top : Int) + (i : Nat) * -1)))) _
      rw [e0]
      exact hs i σ' _ hi p) hd⟩
theorem q_forDown {σ : St} {H : Hp} {D : Ends} {ta : TA} {j : Nat} {tu tz : TS} {top : Nat} (h : EvA ta σ H [.int (top : Int), .int 0, .int (-1)]) (ht : top ≤ 100000) (Pv : Nat → St → Hp → Prop) (h0 : ∀ H1, Ex H H1 → Pv 0 σ H1)
    (hs : ∀ (i : Nat) σ' H', i < top → Pv i σ' H' → tu { D with nx := Pv (i + 1), ct := Pv (i + 1), bk := tz D } (σ'.set j (some (.int ((top - i : Nat) : Int)))) H') (hd : ∀ σ' H', Pv top σ' H' → tz D σ' H') : tSeq (tFor (iRng3 ta) (gName j) tu) tz D σ H :=
  s_forDown (D := { D with nx := tz D }) h ht Pv h0 hs hd
end
end AT

/-! ## kept: its promise at a form -/
namespace AT
open PySem PySem.Spec PyProof.Rows L2 Evl
section
variable {K : Frag} {H : Hp} {σ : St} {C a : Addr} {n : Nat} {f : Nat → Nat → Int} {t1 : TE} {E : XK}
theorem stepsOf_congr {n : Nat} {f g : Nat → Nat → Int} (h : Fm n f = Fm n g) : stepsOf n f = stepsOf n g := by
  unfold stepsOf
  rw [h]
theorem stepsOf_len : (stepsOf n f).length = n := by
  unfold stepsOf
  rw [List.length_map, fm_len]
theorem spr_kept (hf : FormOf n f) (hM : LLI K H a (Fm n f)) : SpR (sp_kept K C) [.ref a] H (RKept n f) := fun H1 e1 Q q E =>
  ⟨a, _, rfl, hM.mono e1, small_fm (by have := hf.2.1; omega), fun z => absurd (fmI hf) z, fun n' f' e hf' H2 v e2 hv => by
    obtain ⟨rfl, ee⟩ := fm_inj e
    refine q v H2 e2 ?_
    unfold RKept at hv ⊢
    rw [detL_fm e, stepsOf_congr e]
    exact hv⟩
theorem er_keptR (hf : FormOf n f) (h1 : Er t1 σ H (RM (Fm n f))) : Er (tCall (sp_kept K C) [] E (tCons t1 tNil)) σ H (RKept n f) :=
  er_callR1 mon_RKept h1 ea_nil fun v1 G1 G2 G3 g1 g2 g3 ⟨c, hc, hOc⟩ => by
    subst hc
    exact spr_kept hf (hOc.lli.mono g3)
theorem ev_isTup {vs : List V} {p : Addr} {ta : TE} (ha : Ev ta σ H (.ref p)) (h : H p = some (.tup vs)) : Ev (tCB (rIsi K) (tCons ta (tCons (tC (.ty "tuple")) tNil))) σ H (.bl true) := ev_isi (u := .none) (w := .none) (n := "tuple") ha (fun H1 e => .base (.tup (e _ _ h))) (kit_ty (by decide +kernel))
theorem ev_lenT {vs : List V} {p : Addr} {ta : TE} (ha : Ev ta σ H (.ref p)) (h : H p = some (.tup vs)) : Ev (tCB (rLenS K) (tCons ta tNil)) σ H (.int (vs.length : Int)) := fun H1 e Q q =>
  ha H1 e _ fun H2 e2 => ⟨p, vs, rfl, .inr (st_of ((e.trans e2) _ _ h)), q H2 e2⟩
theorem ev_ixT {vs : List V} {p : Addr} {ta tb : TE} {i : Nat} {v : V} (ha : Ev ta σ H (.ref p)) (hb : Ev tb σ H (.int (i : Int))) (h : H p = some (.tup vs)) (hv : vs[i]? = some v) : Ev (tOp (rIxT K) ta tb) σ H v := ev_op ha hb (rv_ixT (st_of h) (atI_n hv))
end
end AT

/-! ## what no turn changes -/
namespace AT
open PySem
def invOk (n : Nat) : Bool := (allAt n n).all fun ps => invF (invN n ps) % 2 == invF ps % 2
theorem invOk6 : (invOk 0 && invOk 1 && invOk 2 && invOk 3 && invOk 4 && invOk 5 && invOk 6) = true := by decide +kernel
theorem sgn_inv {n : Nat} {ps : List Nat} (h6 : n ≤ 6) (h : Names n ps) : sgn (invN n ps) = sgn ps := by
  have h0 := invOk6
  simp only [Bool.and_eq_true] at h0
  have hn : invOk n = true := by
    rcases (show n = 0 ∨ n = 1 ∨ n = 2 ∨ n = 3 ∨ n = 4 ∨ n = 5 ∨ n = 6 by omega) with rfl | rfl | rfl | rfl | rfl | rfl | rfl
    · exact h0.1.1.1.1.1.1
    · exact h0.1.1.1.1.1.2
    · exact h0.1.1.1.1.2
    · exact h0.1.1.1.2
    · exact h0.1.1.2
    · exact h0.1.2
    · exact h0.2
  have := List.all_eq_true.mp hn ps (mem_allAt_iff.mpr h)
  unfold sgn
  rw [invs_eq, invs_eq, beq_iff_eq.mp this]
theorem names_ext {n : Nat} {ps qs : List Nat} (h : Names n ps) (h2 : Names n qs) (e : ∀ t, t < n → ps.getD t 0 = qs.getD t 0) : ps = qs := by
  rw [list_eq_range 0 ps, list_eq_range 0 qs, h.len, h2.len]
  exact List.map_congr_left fun t ht => e t (List.mem_range.mp ht)
theorem inv_inj {n : Nat} {ps qs : List Nat} (h : Names n ps) (h2 : Names n qs) (e : invN n ps = invN n qs) : ps = qs := names_ext h h2 fun t ht => by
  have hp := names_getD h ht
  have e1 : ps.idxOf (ps.getD t 0) = qs.idxOf (ps.getD t 0) := by rw [← invN_getD (ps := ps) hp.1, e, invN_getD hp.1]
  rw [hp.2] at e1
  have := names_at_ix h2 hp.1
  rw [← e1] at this
  exact this.symm
theorem detL_tr {n : Nat} {A : Nat → Nat → Int} (h6 : n ≤ 6) : detL n (fun i j => A j i) = detL n A := by
  have e : detL n (fun i j => A j i) = sumL ((allAt n n).map fun ps => term n A (invN n ps)) := by
    refine sumL_congr fun ps hps => ?_
    have hps := names_allAt hps
    unfold term
    rw [sgn_inv h6 hps]
    refine congrArg _ ?_
    have e1 : prN n (fun k => A k ((invN n ps).getD k 0)) = prodL (ps.map fun k => A k ((invN n ps).getD k 0)) := (prN_perm hps).symm
    have e2 : ∀ g : Nat → Int, ps.map g = (List.range n).map fun i => g (ps.getD i 0) := fun g => by
      conv => lhs; rw [list_eq_range 0 ps, hps.len]
      rw [List.map_map]
      rfl
    rw [e1, e2]
    refine congrArg prodL (List.map_congr_left fun i hi => ?_)
    have hi := List.mem_range.mp hi
    have hp := names_getD hps hi
    show A (ps.getD i 0) i = A (ps.getD i 0) ((invN n ps).getD (ps.getD i 0) 0)
    rw [invN_getD hp.1, hp.2]
  rw [e]
  exact sum_bij (term n A) (fun ps h => invN_names h) fun ps qs h h2 => inv_inj h h2
/-- a multiple of row k to each other one, row k the other way -/
theorem detL_rows {n k : Nat} {A : Nat → Nat → Int} (c : Nat → Int) (hk : k < n) : detL n (fun i j => if i = k then 0 - A k j else A i j + c i * A k j) = 0 - detL n A := by
  have h1 : ∀ t, t ≤ n → detL n (fun i j => if i < t ∧ i ≠ k then A i j + c i * A k j else A i j) = detL n A := fun t => by
    induction t with
    | zero => exact fun _ => detL_congr fun i j _ _ => by rw [if_neg (by omega)]
    | succ t ih =>
      intro ht
      rw [← ih (by omega)]
      by_cases e : t = k
      · exact detL_congr fun i j _ _ => by
          by_cases h : i < t ∧ i ≠ k
          · rw [if_pos h, if_pos (by omega)]
          · rw [if_neg h, if_neg (by omega)]
      · have h2 := detL_op (n := n) (p := t) (q := k) (A := fun i j => if i < t ∧ i ≠ k then A i j + c i * A k j else A i j) (a := 1) (b := c t) (by omega) hk e
        rw [Int.one_mul] at h2
        rw [← h2]
        refine detL_congr fun i j _ _ => ?_
        unfold setR
        by_cases e1 : i = t
        · subst e1
          rw [if_pos (by omega), if_pos rfl]
          dsimp only
          rw [if_neg (by omega), if_neg (by omega)]
          omega
        · rw [if_neg e1]
          dsimp only
          by_cases h : i < t ∧ i ≠ k
          · rw [if_pos h, if_pos (by omega)]
          · rw [if_neg h, if_neg (by omega)]
  have h3 := h1 n (Nat.le_refl n)
  generalize hB : (fun i j => if i < n ∧ i ≠ k then A i j + c i * A k j else A i j) = B at h3
  have hBk : ∀ j, B k j = A k j := fun j => by rw [← hB]; dsimp only; rw [if_neg (by omega)]
  have h4 := detL_lin (n := n) (i := k) (A := B) (r := B k) (s := B k) (a := -1) (b := 0) hk
  rw [setR_self] at h4
  have e : detL n (fun i j => if i = k then 0 - A k j else A i j + c i * A k j) = detL n (setR B k fun j => -1 * B k j + 0 * B k j) := detL_congr fun i j hi _ => by
    unfold setR
    by_cases e1 : i = k
    · rw [if_pos e1, if_pos e1]
      dsimp only
      rw [hBk]
      omega
    · rw [if_neg e1, if_neg e1, ← hB]
      dsimp only
      rw [if_pos ⟨hi, e1⟩]
  rw [e, h4]
  omega
def pos (a : Int) : Int := if 0 < a then a else 0
theorem thr_pos (a b : Int) : thr a b = a * pos b + pos (0 - a) * b := by
  unfold thr pos
  by_cases h1 : 0 < a
  · by_cases h2 : 0 < b
    · rw [if_pos ⟨h1, h2⟩, if_pos h2, if_neg (by omega)]
      omega
    · rw [if_neg (by omega), if_neg (by omega), if_neg h2, if_neg (by omega)]
      omega
  · by_cases h2 : a < 0
    · by_cases h3 : 0 < b
      · rw [if_neg (by omega), if_neg (by omega), if_pos h3, if_pos (by omega)]
        grind
      · by_cases h4 : b < 0
        · rw [if_neg (by omega), if_pos ⟨h2, h4⟩, if_neg h3, if_pos (by omega)]
          grind
        · have : b = 0 := by omega
          subst this
          rw [if_neg (by omega), if_neg (by omega), if_neg (by omega), if_pos (by omega)]
          omega
    · have : a = 0 := by omega
      subst this
      rw [if_neg (by omega), if_neg (by omega), if_neg (show ¬ (0 : Int) < 0 - 0 by omega)]
      omega
theorem skew_zero {n k : Nat} {f : Nat → Nat → Int} (hs : Skew n f) (hk : k < n) : f k k = 0 := by
  have := hs k k hk hk
  omega
theorem detL_turn {n k : Nat} {f : Nat → Nat → Int} (h6 : n ≤ 6) (hs : Skew n f) (hk : k < n) : detL n (turnF f k) = detL n f := by
  have h0 := skew_zero hs hk
  have h1 := detL_rows (A := f) (fun i => pos (0 - f i k)) hk
  generalize hB : (fun i j => if i = k then 0 - f k j else f i j + pos (0 - f i k) * f k j) = B at h1
  have h2 := detL_rows (A := fun i j => B j i) (fun j => pos (f k j)) hk
  have hBt := detL_tr h6 (A := B)
  rw [hBt] at h2
  have e : detL n (turnF f k) = detL n fun i j => (fun i j => if i = k then 0 - (fun i j => B j i) k j else (fun i j => B j i) i j + pos (f k i) * (fun i j => B j i) k j) j i := detL_congr fun i j _ _ => by
    unfold turnF
    rw [← hB]
    dsimp only
    by_cases e1 : i = k
    · subst e1
      by_cases e2 : j = i
      · subst e2
        rw [if_pos (.inl rfl), if_pos rfl, if_pos rfl, h0]
        rfl
      · rw [if_pos (.inl rfl), if_neg e2, if_pos rfl, if_pos rfl, h0]
        omega
    · by_cases e2 : j = k
      · subst e2
        rw [if_pos (.inr rfl), if_pos rfl, if_neg e1, h0]
        omega
      · rw [if_neg (by omega), if_neg e2, if_neg e1, if_neg e1, thr_pos, h0]
        grind
  rw [e, detL_tr h6 (A := fun i j => if i = k then 0 - (fun i j => B j i) k j else (fun i j => B j i) i j + pos (f k i) * (fun i j => B j i) k j), h2, h1]
  omega
theorem detL_odd {n : Nat} {f : Nat → Nat → Int} (h6 : n ≤ 6) (hs : Skew n f) (ho : n % 2 = 1) : detL n f = 0 := by
  have h1 : detL n (fun i j => f j i) = detL n fun i j => (-1) * f i j := detL_congr fun i j hi hj => by have := hs i j hi hj; omega
  rw [detL_tr h6, detL_scale] at h1
  have : ((-1 : Int)) ^ n = -1 := by
    rcases (show n = 1 ∨ n = 3 ∨ n = 5 by omega) with rfl | rfl | rfl <;> decide
  rw [this] at h1
  omega
/-! ### renamed -/
theorem asc_or : ∀ l : List Nat, (∃ t, t + 1 < l.length ∧ l.getD (t + 1) 0 < l.getD t 0) ∨ l.Pairwise (· ≤ ·)
  | [] => .inr .nil
  | [x] => .inr (List.pairwise_singleton _ _)
  | x :: y :: r => by
    by_cases h : y < x
    · exact .inl ⟨0, by simp, h⟩
    · rcases asc_or (y :: r) with ⟨t, h1, h2⟩ | h1
      · exact .inl ⟨t + 1, by simpa using h1, h2⟩
      · refine .inr (List.pairwise_cons.mpr ⟨fun z hz => ?_, h1⟩)
        rcases List.mem_cons.mp hz with rfl | hz
        · omega
        · have := (List.pairwise_cons.mp h1).1 z hz
          omega
theorem invF_desc : ∀ (i : Nat) (l : List Nat), i + 1 < l.length → l.getD (i + 1) 0 < l.getD i 0 → invF l = invF (adj i l) + 1
  | 0, [], h, _ => by simp at h
  | 0, [_], h, _ => by simp at h
  | 0, a :: b :: r, _, h => by
    have h2 : b < a := h
    have h3 : ¬ a < b := by omega
    simp only [adj, invF, List.filter_cons]
    simp only [h2, h3, decide_true, decide_false, if_true, List.length_cons]
    simp
    omega
  | i + 1, [], h, _ => by simp at h
  | i + 1, x :: l, h, hd => by
    have ih := invF_desc i l (by simpa using h) (by simpa using hd)
    have hc := ((adj_perm i l).filter fun y => decide (y < x)).length_eq
    simp only [adj, invF, hc]
    omega
theorem swp_swp (i k : Nat) : swp i (swp i k) = k := by
  unfold swp
  by_cases h1 : k = i
  · rw [if_pos h1, if_neg (by omega), if_pos rfl, h1]
  · by_cases h2 : k = i + 1
    · rw [if_neg h1, if_pos h2, if_pos rfl, h2]
    · rw [if_neg h1, if_neg h2, if_neg h1, if_neg h2]
theorem swp_lt {n i k : Nat} (h : i + 1 < n) (hk : k < n) : swp i k < n := by
  unfold swp
  split
  · omega
  · split <;> omega
theorem adj_ix {n t i : Nat} {ps : List Nat} (h : Names n ps) (ht : t + 1 < n) (hi : i < n) : (adj t ps).idxOf i = swp t (ps.idxOf i) := by
  have hn : Names n (adj t ps) := (adj_perm t ps).trans h
  have hx := h.ix hi
  have e : (adj t ps).getD (swp t (ps.idxOf i)) 0 = i := by rw [adj_getD _ _ _ (by rw [h.len]; exact ht), swp_swp, names_at_ix h hi]
  have := (names_getD hn (swp_lt ht hx)).2
  rw [e] at this
  exact this
theorem detL_adj2 {n t : Nat} {A : Nat → Nat → Int} (h6 : n ≤ 6) (h : t + 1 < n) : detL n (fun i j => A (swp t i) (swp t j)) = detL n A := by
  have h1 := detL_adj (n := n) (i := t) (A := fun i j => A i (swp t j)) h
  have h2 := detL_adj (n := n) (i := t) (A := fun i j => A j i) h
  have hAt := detL_tr h6 (A := A)
  rw [hAt] at h2
  have h3 : detL n (fun i j => A i (swp t j)) = detL n (fun k j => (fun i j => A j i) (swp t k) j) := (detL_tr h6 (A := fun i j => A i (swp t j))).symm
  rw [h3, h2] at h1
  have h4 : detL n (fun i j => A (swp t i) (swp t j)) = detL n (fun k j => (fun i j => A i (swp t j)) (swp t k) j) := rfl
  rw [h4, h1]
  omega
theorem detL_ren : ∀ (m : Nat) {n : Nat} {f : Nat → Nat → Int} {ps : List Nat}, n ≤ 6 → Names n ps → invF ps = m → detL n (renF f ps) = detL n f
  | m, n, f, ps, h6, h, hm => by
    rcases asc_or ps with ⟨t, h1, h2⟩ | hs
    · have hd := invF_desc t ps h1 h2
      rw [h.len] at h1
      have hq : Names n (adj t ps) := (adj_perm t ps).trans h
      cases m with
      | zero => omega
      | succ m =>
        have ih := detL_ren m (n := n) (f := fun i j => f (swp t i) (swp t j)) (ps := adj t ps) h6 hq (by omega)
        rw [detL_adj2 h6 h1] at ih
        rw [← ih]
        refine detL_congr fun i j hi hj => ?_
        show f (ps.idxOf i) (ps.idxOf j) = f (swp t ((adj t ps).idxOf i)) (swp t ((adj t ps).idxOf j))
        rw [adj_ix h h1 hi, adj_ix h h1 hj, swp_swp, swp_swp]
    · have e : decide (nI ps = nI (List.range n)) = dec (IsNames n (nI ps)) := sorted_range (List.Perm.refl _) (by
        unfold nI
        rw [List.pairwise_map]
        exact hs.imp fun h => by omega)
      rw [dec_true (isNames_iff.mpr ⟨ps, h, rfl⟩), decide_eq_true_eq] at e
      have e2 : ps = List.range n := (List.map_inj_right (f := fun x : Nat => (x : Int)) fun a b h => by omega).mp e
      refine detL_congr fun i j hi hj => ?_
      have hx : ∀ i, i < n → ps.idxOf i = i := fun i hi => by
        have := (names_getD h hi).2
        have e3 : ps.getD i 0 = i := by rw [e2, List.getD_eq_getElem?_getD, List.getElem?_range hi]; rfl
        rw [e3] at this
        exact this
      show f (ps.idxOf i) (ps.idxOf j) = f i j
      rw [hx i hi, hx j hj]
/-! ### the steps -/
theorem thr_dvd {g : Nat} {a : Int} (b : Int) (h : g ∣ a.natAbs) : (g : Int) ∣ thr a b := by
  have h1 : (g : Int) ∣ a := Int.natAbs_dvd_natAbs.mp (show (g : Int).natAbs ∣ a.natAbs from h)
  unfold thr
  split
  · exact Int.dvd_trans h1 (Int.dvd_mul_right a b)
  · split
    · rw [Int.zero_sub]
      exact Int.dvd_neg.mpr (Int.dvd_trans h1 (Int.dvd_mul_right a b))
    · exact Int.dvd_zero _
theorem natAbs_of {g : Nat} {a : Int} (h : (g : Int) ∣ a) : g ∣ a.natAbs := Int.natAbs_dvd_natAbs.mpr h
theorem of_natAbs {g : Nat} {a : Int} (h : g ∣ a.natAbs) : (g : Int) ∣ a := Int.natAbs_dvd_natAbs.mp (show (g : Int).natAbs ∣ a.natAbs from h)
theorem gcd_turn {n k i : Nat} {f : Nat → Nat → Int} (hk : k < n) (hi : i < n) : gcdL ((List.range n).map (turnF f k i)) = gcdL ((List.range n).map (f i)) := by
  have key : ∀ (f : Nat → Nat → Int) (g : Nat), (∀ j, j < n → g ∣ (f i j).natAbs) → ∀ j, j < n → g ∣ (turnF f k i j).natAbs := fun f g hg j hj => by
    unfold turnF
    split
    · have := hg j hj
      rw [Int.zero_sub, Int.natAbs_neg]
      exact this
    · refine natAbs_of (Int.dvd_add (of_natAbs (hg j hj)) (thr_dvd _ (hg k hk)))
  have mem : ∀ (f : Nat → Nat → Int) j, j < n → gcdL ((List.range n).map (f i)) ∣ (f i j).natAbs := fun f j hj => gcdL_dvd (List.mem_map.mpr ⟨j, List.mem_range.mpr hj, rfl⟩)
  refine Nat.dvd_antisymm (dvd_gcdL fun x hx => ?_) (dvd_gcdL fun x hx => ?_)
  · obtain ⟨j, hj, rfl⟩ := List.mem_map.mp hx
    have hj := List.mem_range.mp hj
    have h1 := key (turnF f k) _ (fun j hj => mem (turnF f k) j hj) j hj
    have h2 : turnF (turnF f k) k i j = f i j := (fm_inj (turnF_twice (f := f) hk)).2 i j hi hj
    rw [h2] at h1
    exact h1
  · obtain ⟨j, hj, rfl⟩ := List.mem_map.mp hx
    exact key f _ (fun j hj => mem f j hj) j (List.mem_range.mp hj)
theorem steps_turn {n k : Nat} {f : Nat → Nat → Int} (hk : k < n) : stepsOf n (turnF f k) = stepsOf n f := by
  unfold stepsOf Fm
  rw [List.map_map, List.map_map]
  refine List.map_congr_left fun i hi => ?_
  show ((gcdL ((List.range n).map (turnF f k i)) : Nat) : Int) = ((gcdL ((List.range n).map (f i)) : Nat) : Int)
  rw [gcd_turn hk (List.mem_range.mp hi)]
theorem gcd_ren {n i : Nat} {f : Nat → Nat → Int} {ps : List Nat} (h : Names n ps) (hi : i < n) : gcdL ((List.range n).map (renF f ps (ps.getD i 0))) = gcdL ((List.range n).map (f i)) := by
  have hp := names_getD h hi
  have e : ∀ j, renF f ps (ps.getD i 0) j = f i (ps.idxOf j) := fun j => by unfold renF; rw [hp.2]
  refine Nat.dvd_antisymm (dvd_gcdL fun x hx => ?_) (dvd_gcdL fun x hx => ?_)
  · obtain ⟨j, hj, rfl⟩ := List.mem_map.mp hx
    have hj := List.mem_range.mp hj
    have hq := names_getD h hj
    have := gcdL_dvd (xs := (List.range n).map (renF f ps (ps.getD i 0))) (List.mem_map.mpr ⟨ps.getD j 0, List.mem_range.mpr hq.1, rfl⟩)
    rw [e, hq.2] at this
    exact this
  · obtain ⟨j, hj, rfl⟩ := List.mem_map.mp hx
    rw [e]
    exact gcdL_dvd (List.mem_map.mpr ⟨ps.idxOf j, List.mem_range.mpr (h.ix (List.mem_range.mp hj)), rfl⟩)
end AT

namespace AT
open PySem PySem.Spec PyProof.Rows L2 Evl
def sp_law (K : Frag) : Sp := fun vs H Q _ => ∃ (a : Addr) (ns : List Int), vs = [.ref a] ∧ SqL K H a (ns.map V.int) ∧ ns.length ≤ 63 ∧ ∀ H', Q (.bl true) H'
section
variable {P : Program} {w : World} {K : Frag} {mg : Str → Option Value} {base : Heap} {k : Nat}
theorem modN (c : Int) {n : Nat} (hn : 1 ≤ n) : ∃ b : Nat, c % (n : Int) = (b : Int) ∧ b < n := by
  have h1 := Int.emod_nonneg c (show (n : Int) ≠ 0 by omega)
  have h2 := Int.emod_lt_of_pos c (show (0 : Int) < n by omega)
  exact ⟨(c % (n : Int)).toNat, by omega, by omega⟩
theorem qr_asgT {σ : St} {H : Hp} {D : Ends} {te : TE} {tz : TS} {i j n : Nat} {f : Nat → Nat → Int} (h : Er te σ H (RKept n f)) (kk : ∀ p H1, Ex H H1 → OLI H H1 p (stepsOf n f) → tz D ((σ.set i (some (.int (detL n f)))).set j (some (.ref p))) H1) : tSeq (tAsg te (gTup K 2 (gCons (gName i) (gCons (gName j) gNil)))) tz D σ H :=
  h H (Ex.refl H) _ fun v H1 e1 ⟨t, p, hv, ht0, ht, hp⟩ => by
    subst hv
    exact ⟨t, [.int (detL n f), .ref p], rfl, st_of ht, rfl, .int (detL n f), [.ref p], rfl, .ref p, [], rfl, rfl, kk p H1 e1 hp⟩
theorem shaped_tup {d : Int} {xs : List Int} : SeqAt.shaped (.tuple [.int d, .list (dI xs)]) = true := by
  unfold SeqAt.shaped
  have h2 := canLay_ints xs
  have h4 := depth_ints xs
  rw [Bool.and_eq_true]
  refine ⟨by simp [PyData.canLay0, PyData.canLayAll0, h2], decide_eq_true ?_⟩
  simp only [PyData.depth, PyData.depthAll]
  omega
theorem eqv_tup {d : Int} {xs : List Int} : PyData.eqv (.tuple [.int d, .list (dI xs)]) (.tuple [.int d, .list (dI xs)]) = true := by
  show ((d == d) && (PyData.eqvAll (dI xs) (dI xs) && true)) = true
  rw [eqv_I]
  simp
theorem rv_neT {H : Hp} {t u p r : Addr} {d : Int} {xs : List Int} (h1 : H t = some (.tup [.int d, .ref p])) (h2 : H u = some (.tup [.int d, .ref r])) (hp : LI K H p xs) (hr : LI K H r xs) : RV (rNeD K) (.ref t) (.ref u) H (.bl false) := fun H1 e Q q =>
  ⟨_, _, .tup (st_of (e _ _ h1)) (.cons (.int d) (.cons (hp.mono e).dp .nil)), .tup (st_of (e _ _ h2)) (.cons (.int d) (.cons (hr.mono e).dp .nil)), shaped_tup, shaped_tup, by
    rw [eqv_tup]
    exact q H1 (Ex.refl _)⟩
theorem ev_neKept {σ : St} {H : Hp} {ta t1 t2 : TE} {n : Nat} {f : Nat → Nat → Int} {r : Addr} (h : Er ta σ H (RKept n f)) (h1 : Ev t1 σ H (.int (detL n f))) (h2 : Ev t2 σ H (.ref r)) (hr : LI K H r (stepsOf n f)) : Ev (tOp (rNeD K) ta (tTup (tCons t1 (tCons t2 tNil)))) σ H (.bl false) := fun H1 e Q q =>
  h H1 e _ fun v H2 e2 ⟨t, p, hv, ht0, ht, hp⟩ => by
    subst hv
    refine eu_tup (ea_cons h1 (ea_cons h2 ea_nil)) (by show 2 ≤ 100000; decide) H2 (e.trans e2) _ fun u H3 hu e3 hu3 => ?_
    exact rv_neT (e3 _ _ ht) hu3 (sq_of (e3 _ _ hp.2)) (hr.mono ((e.trans e2).trans e3)) H3 (Ex.refl _) Q fun H4 e4 => q H4 ((e2.trans e3).trans e4)
theorem ev_neLI {σ : St} {H : Hp} {ta tb : TE} {xs ys : List Int} {r : Addr} (h : EvL ta σ H (xs.map V.int)) (h2 : Ev tb σ H (.ref r)) (hr : LI K H r ys) : Ev (tOp (rNeD K) ta tb) σ H (.bl (!decide (xs = ys))) := fun H1 e Q q =>
  h H1 e _ fun p H2 hp e2 hp2 => h2 H2 (e.trans e2) _ fun H3 e3 => rv_neI (sq_of (e3 _ _ hp2)) (hr.mono ((e.trans e2).trans e3)) H3 (Ex.refl _) Q fun H4 e4 => q H4 ((e2.trans e3).trans e4)
theorem er_renamedR1 {σ : St} {H : Hp} {t1 t2 : TE} {C1 C2 b : Addr} {E : XK} {n : Nat} {f : Nat → Nat → Int} {ps : List Nat} (hf : FormOf n f) (hps : Names n ps) (h1 : Er t1 σ H (RM (Fm n f))) (h2 : Ev t2 σ H (.ref b)) (hN : LI K H b (nI ps)) : Er (tCall (sp_renamed K C1 C2) [] E (tCons t1 (tCons t2 tNil))) σ H (RM (Fm n (renF f ps))) :=
  er_callR1 mon_RM h1 (ea_cons h2 ea_nil) fun v1 G1 G2 G3 g1 g2 g3 ⟨c, hc, hOc⟩ => by
    subst hc
    exact spr_renamed hf hps (hOc.lli.mono g3) (hN.mono ((g1.trans g2).trans g3))
theorem stepsOf_get {n i : Nat} {f : Nat → Nat → Int} (hi : i < n) : (stepsOf n f)[i]? = some ((gcdL ((List.range n).map (f i)) : Nat) : Int) := by
  unfold stepsOf
  rw [List.getElem?_map, fm_get hi]
  rfl
theorem ok_law (T : Txt K mg) (G__law_form : FnOk P w K mg base CX0 k T.f__law_form T.d__law_form ["script", "k", "most"] (sp__law_form K)) (G__law_copy : FnOk P w K mg base CX0 k T.f__law_copy T.d__law_copy ["form"] (sp__law_copy K))
    (G__law_some_names : FnOk P w K mg base CX0 k T.f__law_some_names T.d__law_some_names ["script", "k", "count"] (sp__law_some_names K)) (G__law_cell : FnOk P w K mg base CX0 k T.f__law_cell T.d__law_cell ["script", "k"] (sp__law_cell K))
    (G_renamed : FnOk P w K mg base (L2.CX P w) k T.f_renamed T.d_renamed ["form", "names"] (sp_renamed K T.c_NoForm T.c_NoNames)) (G_turned : FnOk P w K mg base (L2.CX P w) k T.f_turned T.d_turned ["form", "box"] (sp_turned K T.c_NoForm T.c_NoBox))
    (G_kept : FnOk P w K mg base (L2.CX P w) k T.f_kept T.d_kept ["form"] (sp_kept K T.c_NoForm)) :
    FnOk P w K mg base CX0 (k + 1) T.f_law T.d_law ["script"] (sp_law K) := by
  refine T.F_law.ok sc_law (fun vs H Q E h => ?_) (fun cdv A outer s H vs Q E hr h => ?_)
  · obtain ⟨a, ns, rfl, _⟩ := h
    rfl
  · obtain ⟨a, ns, rfl, hL, hlen, q⟩ := h
    have hL : LI K H a ns := hL
    refine ⟨_, (pss_cons (ps_set (i := 1) sc_law.nd rfl (.inl rfl) (pe_call G__law_form hr rfl T.m__law_form T.F__law_form.kp T.b__law_form .nil pass0 (pa_cons (pv 0) (pa_cons pe_int (pa_cons pe_int pa_nil)))))
      (pss_cons (ps_asg (pe_call G_kept hr rfl T.m_kept T.F_kept.kp T.b_kept .nil passL (pa_cons (pe_call G__law_copy hr rfl T.m__law_copy T.F__law_copy.kp T.b__law_copy .nil pass0 (pa_cons (pv 1) pa_nil)) pa_nil)) (pg_tupK K (n := 2) rfl (pgs_cons (pg_name (i := 2) sc_law.nd rfl (.inl rfl)) (pgs_cons (pg_name (i := 3) sc_law.nd rfl (.inl rfl)) pgs_nil))))
      (pss_cons (ps_set (i := 4) sc_law.nd rfl (.inl rfl) (pe_call G__law_some_names hr rfl T.m__law_some_names T.F__law_some_names.kp T.b__law_some_names .nil pass0 (pa_cons (pv 0) (pa_cons pe_int (pa_cons (pe_callB (lenK K) rfl T.b_len PySem.boot_len (pa_cons (pv 1) pa_nil)) pa_nil)))))
      (pss_cons (ps_asg (pe_call G_kept hr rfl T.m_kept T.F_kept.kp T.b_kept .nil passL (pa_cons (pe_call G_renamed hr rfl T.m_renamed T.F_renamed.kp T.b_renamed .nil passL (pa_cons (pe_call G__law_copy hr rfl T.m__law_copy T.F__law_copy.kp T.b__law_copy .nil pass0 (pa_cons (pv 1) pa_nil)) (pa_cons (pv 4) pa_nil))) pa_nil)) (pg_tupK K (n := 2) rfl (pgs_cons (pg_name (i := 5) sc_law.nd rfl (.inl rfl)) (pgs_cons (pg_name (i := 6) sc_law.nd rfl (.inr rfl)) pgs_nil))))
      (pss_cons (ps_if (PW.pt (pw_or (pt_cmpR op_ne (pv 5) (pv 2) (nomark _)) (pw_or1 (pt_cmpR (neDK K hr.units) (pe_lc (own := [("name", 8)]) rfl sc_law.nd (pi_listK K (pv 4)) (blkOk_by (own := [("name", 8)]) (N := N_law) (sc := defScope s_law) (by decide +kernel)) (fun _ _ _ _ _ => (pg_name (i := 8) sc_law.nd rfl (.inl rfl))) (fun _ _ _ _ _ => pts_nil) (fun _ _ _ _ _ => (pe_ix (ixL K) (pv 6) (pv 8) (fun _ _ => rfl)))) (pv 3) (nomark _)))))
        (pss_one (ps_ret pe_bl))
        pss_nil)
      (pss_cons (ps_if (PW.pt (pw_and (pt_cmpR op_eq (pe_op op_modN (pe_callB (lenK K) rfl T.b_len PySem.boot_len (pa_cons (pv 1) pa_nil)) pe_int) pe_int (nomark _)) (pw_and1 (pt_cmpR op_ne (pv 2) pe_int (nomark _)))))
        (pss_one (ps_ret pe_bl))
        pss_nil)
      (pss_cons (ps_for PassesOwn.never rfl (pi_range1 rfl T.b_range (pa_cons (pe_op op_modN (pe_call G__law_cell hr rfl T.m__law_cell T.F__law_cell.kp T.b__law_cell .nil pass0 (pa_cons (pv 0) (pa_cons pe_int pa_nil))) pe_int) pa_nil)) (pg_name (i := 7) sc_law.nd rfl (.inl rfl))
        (pss_cons (ps_set (i := 1) sc_law.nd rfl (.inl rfl) (pe_call G_turned hr rfl T.m_turned T.F_turned.kp T.b_turned .nil passL (pa_cons (pv 1) (pa_cons (pe_op op_modN (pe_call G__law_cell hr rfl T.m__law_cell T.F__law_cell.kp T.b__law_cell .nil pass0 (pa_cons (pv 0) (pa_cons (pe_op op_add pe_int (pv 7)) pa_nil))) (pe_callB (lenK K) rfl T.b_len PySem.boot_len (pa_cons (pv 1) pa_nil))) pa_nil))))
      (pss_cons (ps_if (pt_cmpR op_gt (pe_callB (maxK K rfl) rfl T.b_max (by decide +kernel) (pa_cons (pe_lc (own := [("numbers", 9)]) rfl sc_law.nd (pi_listK K (pv 1)) (blkOk_by (own := [("numbers", 9)]) (N := N_law) (sc := defScope s_law) (by decide +kernel)) (fun _ _ _ _ _ => (pg_name (i := 9) sc_law.nd rfl (.inl rfl))) (fun _ _ _ _ _ => pts_nil) (fun _ _ _ _ _ => (pe_callB (maxK K rfl) rfl T.b_max (by decide +kernel) (pa_cons (pv 9) pa_nil)))) pa_nil)) pe_int (nomark _))
        (pss_one (ps_ret pe_bl))
        pss_nil)
      (pss_one (ps_if (pt_cmpR (neDK K hr.units) (pe_call G_kept hr rfl T.m_kept T.F_kept.kp T.b_kept .nil passL (pa_cons (pe_call G__law_copy hr rfl T.m__law_copy T.F__law_copy.kp T.b__law_copy .nil pass0 (pa_cons (pv 1) pa_nil)) pa_nil)) (pe_tup (pa_cons (pv 2) (pa_cons (pv 3) pa_nil))) (nomark _))
        (pss_one (ps_ret pe_bl))
        pss_nil)))))
      (pss_one (ps_ret pe_bl))))))))), ?_⟩
    refine qr_asg (er_form (j := 0) (most := 6) hL (ea_cons (ev_var rfl) (ea_cons ev_c (ea_cons ev_c ea_nil))) (by decide) (by decide) (by decide)) fun v H1 e1 ⟨n, f, p, hv, hf, _, hO⟩ => ?_
    subst hv
    have hn1 := hf.1
    have hn6 := hf.2.1
    have hn0 : (0 : Int) < n := by omega
    have hM : LLI K H1 p (Fm n f) := hO.lli
    refine qr_asgT (er_keptR hf (er_copy (ev_var rfl) hM (by rw [fm_len]; omega))) fun sa H2 e2 hsa => ?_
    have hS2 : LI K H2 sa (stepsOf n f) := sq_of hsa.2
    have hM2 := hM.mono e2
    have e12 := e1.trans e2
    refine qr_asg (R := fun _ H3 v => ∃ nm ps, v = .ref nm ∧ Names n ps ∧ LI K H3 nm (nI ps)) (fun H3 e3 Q' q' => ?_) fun v H3 e3 ⟨nm, ps, hv, hps, hN⟩ => ?_
    · refine ea_cons (ev_var (v := .ref a) rfl) (ea_cons (ev_c (v := .int 20)) (ea_cons (ev_lenFm (ev_var rfl) hM2) ea_nil)) H3 e3 _ fun H4 e4 => ?_
      exact ⟨a, ns, 20, n, rfl, hL.mono ((e12.trans e3).trans e4), by decide, by omega, fun ps H' p' e hps hO => q' _ H' (e4.trans e) ⟨p', ps, rfl, hps, hO.li⟩⟩
    subst hv
    have hM3 := hM2.mono e3
    have hS3 := hS2.mono e3
    refine qr_asgT (er_keptR (renF_ok hf hps) (er_renamedR1 hf hps (er_copy (ev_var rfl) hM3 (by rw [fm_len]; omega)) (ev_var rfl) hN)) fun mv H4 e4 hmv => ?_
    have hV4 : LI K H4 mv (stepsOf n (renF f ps)) := sq_of hmv.2
    have hN4 := hN.mono e4
    have hS4 := hS3.mono e4
    have hdr : detL n (renF f ps) = detL n f := detL_ren _ hn6 hps rfl
    rw [hdr]
    have hcomp : EvL (tLc (iList K (tVar 4)) (gName 8) tYes (tOp (rIxL K) (tVar 6) (tVar 8)) [8]) [some (V.ref a), some (.ref p), some (.int (detL n f)), some (.ref sa), some (.ref nm), some (.int (detL n f)), some (.ref mv), none, none, none] H4 ((stepsOf n f).map V.int) := by
      have := el_lcL (K := K) (σ := [some (V.ref a), some (.ref p), some (.int (detL n f)), some (.ref sa), some (.ref nm), some (.int (detL n f)), some (.ref mv), none, none, none]) (H := H4) (te := tOp (rIxL K) (tVar 6) (tVar 8)) (t := tYes) (tl := tVar 4) (j := 8) (vs := [8]) (a := nm) (xs := (nI ps).map V.int) (fun _ => true) (fun i => .int ((gcdL ((List.range n).map (f i)) : Nat) : Int)) (ev_var rfl) hN4 (by rw [List.length_map, nI_len, hps.len]; omega) (fun _ => rfl)
        (fun i x G1 g1 hx G2 g2 Q' q' => q' G2 (Ex.refl _))
        (fun i x G1 g1 hx _ => by
          have hi : i < n := by
            have := (List.getElem?_eq_some_iff.mp hx).1
            rw [List.length_map, nI_len, hps.len] at this
            exact this
          have hq := names_getD hps hi
          have hpi : (nI ps)[i]? = some ((ps.getD i 0 : Nat) : Int) := nI_get (by
            obtain ⟨x, h1, _⟩ := hps.lt hi
            rw [List.getD_eq_getElem?_getD, h1]; rfl)
          rw [List.getElem?_map, hpi] at hx
          cases hx
          have := stepsOf_get (f := renF f ps) hq.1
          rw [gcd_ren hps hi] at this
          exact ev_item (ev_var rfl) (ev_var rfl) (hV4.mono g1) this)
      rw [List.length_map, nI_len, hps.len, given_all] at this
      have e : stepsOf n f = (List.range n).map fun i => ((gcdL ((List.range n).map (f i)) : Nat) : Int) := by
        unfold stepsOf Fm
        rw [List.map_map]
        rfl
      rw [e]
      exact this
    refine q_when (b := false) (et_is (et_or (et_test (ev_op (ev_var (v := .int (detL n f)) rfl) (ev_var (v := .int (detL n f)) rfl) (rv_ne rfl))) fun _ => et_test (ev_neLI hcomp (ev_var rfl) hS4)) (by simp)) (fun hb => nomatch hb) (fun _ H5 e5 => ?_)
    have hM5 := (hM3.mono e4).mono e5
    refine q_when (et_and (et_test (ev_op (ev_mod (ev_lenFm (ev_var rfl) hM5) ev_c (by decide)) ev_c (rv_eq rfl))) fun _ => et_test (ev_op (ev_var (v := .int (detL n f)) rfl) ev_c (rv_ne rfl))) (fun hb H6 e6 => ?_) (fun _ H6 e6 => ?_)
    · simp only [Bool.and_eq_true, Bool.not_eq_true', decide_eq_true_eq, decide_eq_false_iff_not] at hb
      obtain ⟨hb1, hb2⟩ := hb
      injection hb1 with hb1
      exact absurd (congrArg V.int (detL_odd hn6 hf.skew (by omega))) hb2
    have e36 := (e4.trans e5).trans e6
    have e06 := (e12.trans e3).trans e36
    obtain ⟨c, hc⟩ : ∃ c : Nat, cellV ns 30 % 5 = (c : Int) := ⟨(cellV ns 30 % 5).toNat, by omega⟩
    have hrange : EvA (tCons (tOp (rI (fun _ j => j ≠ 0) fun i j => .int (i.fmod j)) (tCall (sp__law_cell K) [] E0 (tCons (tVar 0) (tCons (tC (.int 30)) tNil))) (tC (.int 5))) tNil) [some (V.ref a), some (.ref p), some (.int (detL n f)), some (.ref sa), some (.ref nm), some (.int (detL n f)), some (.ref mv), none, none, none] H6 [.int (c : Int)] := by
      have := ev_mod (ev_cv (K := K) (E := E0) (j := 30) (σ := [some (V.ref a), some (.ref p), some (.int (detL n f)), some (.ref sa), some (.ref nm), some (.int (detL n f)), some (.ref mv), none, none, none]) (hL.mono e06) (ea_cons (ev_var (i := 0) rfl) (ea_cons (ev_c (v := .int 30)) ea_nil)) (by decide)) (ev_c (v := .int 5)) (by decide)
      rw [hc] at this
      exact ea_cons this ea_nil
    refine q_forR1 (n := (c : Int)) hrange (by omega) (fun i σ' H' => ∃ p g x7, σ' = [some (.ref a), some (.ref p), some (.int (detL n f)), some (.ref sa), some (.ref nm), some (.int (detL n f)), some (.ref mv), x7, none, none] ∧ Ex H6 H' ∧ FormOf n g ∧ LLI K H' p (Fm n g) ∧ detL n g = detL n f ∧ stepsOf n g = stepsOf n f)
      (fun H7 e7 => ⟨p, f, _, rfl, e7, hf, (hM5.mono e6).mono e7, rfl, rfl⟩) (fun i σ' H' hi hP => ?_) (fun σ' H' hP => ?_)
    · obtain ⟨p, g, x7, rfl, eH, hg, hG, hd, hst⟩ := hP
      obtain ⟨b, hb, hbn⟩ := modN (cellV ns (31 + i)) hn1
      have hbx : Ev (tOp (rI (fun _ j => j ≠ 0) fun i j => .int (i.fmod j)) (tCall (sp__law_cell K) [] E0 (tCons (tVar 0) (tCons (tOp (rI0 fun i j => .int (i + j)) (tC (.int 31)) (tVar 7)) tNil))) (tCB (rLenS K) (tCons (tVar 1) tNil))) [some (V.ref a), some (.ref p), some (.int (detL n f)), some (.ref sa), some (.ref nm), some (.int (detL n f)), some (.ref mv), some (.int (i : Int)), none, none] H' (.int (b : Int)) := by
        have := ev_mod (ev_cv (K := K) (E := E0) (j := 31 + i) (σ := [some (V.ref a), some (.ref p), some (.int (detL n f)), some (.ref sa), some (.ref nm), some (.int (detL n f)), some (.ref mv), some (.int (i : Int)), none, none]) (hL.mono (e06.trans eH)) (ea_cons (ev_var (i := 0) rfl) (ea_cons (ev_op (ev_c (v := .int 31)) (ev_var (v := .int (i : Int)) (i := 7) rfl) (rv_I0 (g := fun i j => .int (i + j)))) ea_nil)) (by omega)) (ev_lenFm (n := n) (f := g) (ev_var (i := 1) rfl) hG) hn0
        rw [hb] at this
        exact this
      refine qr_asg (er_turned hg hbn hG (ea_cons (ev_var (v := .ref p) rfl) (ea_cons hbx ea_nil))) fun v H7 e7 ⟨u, hv, hu⟩ => ?_
      subst hv
      have hU : LLI K H7 u (Fm n (turnF g b)) := hu.lli
      have hne : ∀ r, r ∈ Fm n (turnF g b) → r ≠ [] := fun r hr e => by
        subst e
        obtain ⟨i, _, hi⟩ := List.mem_map.mp hr
        have := congrArg List.length hi
        simp at this
        omega
      have hne2 : Fm n (turnF g b) ≠ [] := fun e => by
        have := congrArg List.length e
        rw [fm_len] at this
        simp at this
        omega
      refine q_when (et_test (ev_op (ev_max (xs := (Fm n (turnF g b)).map maxL) (el_lcRows maxL (ev_var rfl) hU (by rw [fm_len]; omega) (fun _ => rfl) fun x r H1 e1 hr hx => ev_maxN (ev_var rfl) hx (hne r hr)) (by simpa using hne2)) ev_c rv_I0)) (fun _ H8 e8 => s_ret ev_c fun H9 e9 => q H9) (fun hk H8 e8 => ?_)
      have hle : ∀ i j, i < n → j < n → turnF g b i j ≤ 99 := fun i j hi hj => by
        have h1 : turnF g b i j ≤ maxL ((List.range n).map (turnF g b i)) := maxL_le (List.mem_map.mpr ⟨j, List.mem_range.mpr hj, rfl⟩)
        have h2 : maxL ((List.range n).map (turnF g b i)) ≤ maxL ((Fm n (turnF g b)).map maxL) := maxL_le (List.mem_map.mpr ⟨_, List.mem_map.mpr ⟨i, List.mem_range.mpr hi, rfl⟩, rfl⟩)
        rw [decide_eq_false_iff_not] at hk
        omega
      have hg2 : FormOf n (turnF g b) := ⟨hn1, hn6, fun i j hi hj => by
        have h1 := turnF_skew hg.skew hbn i j hi hj
        have h2 := hle i j hi hj
        have h3 := hle j i hj hi
        exact ⟨h1, by omega, h2⟩⟩
      have hd2 : detL n (turnF g b) = detL n f := (detL_turn hn6 hg.skew hbn).trans hd
      have hst2 : stepsOf n (turnF g b) = stepsOf n f := (steps_turn hbn).trans hst
      have hU8 := hU.mono e8
      refine s_when (b := false) (et_test (ev_neKept (f := turnF g b) (er_keptR hg2 (er_copy (ev_var (v := .ref u) rfl) hU8 (by rw [fm_len]; omega))) (ev_var (v := .int (detL n (turnF g b))) (by rw [hd2]; rfl)) (ev_var (v := .ref sa) rfl) (by rw [hst2]; exact hS4.mono ((((e5.trans e6).trans eH).trans e7).trans e8)))) (fun hb => nomatch hb) (fun _ H9 e9 => ⟨u, turnF g b, _, rfl, ((eH.trans e7).trans e8).trans e9, hg2, hU8.mono e9, hd2, hst2⟩)
    · obtain ⟨p, g, x7, rfl, eH, _⟩ := hP
      exact s_ret ev_c fun H7 e7 => q H7
end
section
variable {P : Program} {w : World} {K : Frag} {mg : Str → Option Value} {base : Heap}
abbrev LEVEL : Nat := 8
theorem law_ok (T : Txt K mg) : FnOk P w K mg base CX0 LEVEL T.f_law T.d_law ["script"] (sp_law K) := by
  have g1 := ok_is_form (P := P) (w := w) (base := base) (k := 0) T
  have g2 := ok_must_form T g1
  have g3 := ok_determinant (P := P) (w := w) (base := base) (k := 1) T
  have g4 := ok_step_of (P := P) (w := w) (base := base) (k := 1) T
  have g5 := ok_kept T g2 g3 g4
  have g6 := ok__law_cell (P := P) (w := w) (base := base) (k := 0) T
  have g7 := ok__law_form T g6
  have g8 := ok__law_copy (P := P) (w := w) (base := base) (k := 0) T
  have g11 := ok__law_some_names T g6
  have g13 := ok_through (P := P) (w := w) (base := base) (k := 0) T
  have g14 := ok_turned_by T g13
  have g15 := ok_turned T g2 g14
  have g16 := ok_renamed_by (P := P) (w := w) (base := base) (k := 1) T
  have g17 := ok_renamed T g2 g16
  exact (ok_law (k := 6) T (g7.mono (by decide)) (g8.mono (by decide)) (g11.mono (by decide)) (g6.mono (by decide)) (g17.mono (by decide)) (g15.mono (by decide)) (g5.mono (by decide))).mono (by decide)
end
end AT

/-! ### what the top has written; the end -/
namespace AT
open PySem PySem.Spec PyProof.Rows L2 Evl
theorem all_mk {l : PySem.W.OpenLaw} {w : World} {K : Frag} {h : Heap} {mg : Str → Option Value} {fa : Addr} (X : K.In h) (G : h.Ns mainGlobals mg) (hfa : mg "law" = some (.ref fa))
    {f_is_form : Addr} {od_is_form an_is_form : Option Addr} {sl_is_form : Array (Option Value)} {oc_is_form kV_is_form dc_is_form pm_is_form cd_is_form ct_is_form : Value}
    {f_must_form : Addr} {od_must_form an_must_form : Option Addr} {sl_must_form : Array (Option Value)} {oc_must_form kV_must_form dc_must_form pm_must_form cd_must_form ct_must_form : Value}
    {f_through : Addr} {od_through an_through : Option Addr} {sl_through : Array (Option Value)} {oc_through kV_through dc_through pm_through cd_through ct_through : Value}
    {f_turned_by : Addr} {od_turned_by an_turned_by : Option Addr} {sl_turned_by : Array (Option Value)} {oc_turned_by kV_turned_by dc_turned_by pm_turned_by cd_turned_by ct_turned_by : Value}
    {f_turned : Addr} {od_turned an_turned : Option Addr} {sl_turned : Array (Option Value)} {oc_turned kV_turned dc_turned pm_turned cd_turned ct_turned : Value}
    {f_renamed_by : Addr} {od_renamed_by an_renamed_by : Option Addr} {sl_renamed_by : Array (Option Value)} {oc_renamed_by kV_renamed_by dc_renamed_by pm_renamed_by cd_renamed_by ct_renamed_by : Value}
    {f_renamed : Addr} {od_renamed an_renamed : Option Addr} {sl_renamed : Array (Option Value)} {oc_renamed kV_renamed dc_renamed pm_renamed cd_renamed ct_renamed : Value}
    {f_determinant : Addr} {od_determinant an_determinant : Option Addr} {sl_determinant : Array (Option Value)} {oc_determinant kV_determinant dc_determinant pm_determinant cd_determinant ct_determinant : Value}
    {f_step_of : Addr} {od_step_of an_step_of : Option Addr} {sl_step_of : Array (Option Value)} {oc_step_of kV_step_of dc_step_of pm_step_of cd_step_of ct_step_of : Value}
    {f_kept : Addr} {od_kept an_kept : Option Addr} {sl_kept : Array (Option Value)} {oc_kept kV_kept dc_kept pm_kept cd_kept ct_kept : Value}
    {f__law_cell : Addr} {od__law_cell an__law_cell : Option Addr} {sl__law_cell : Array (Option Value)} {oc__law_cell kV__law_cell dc__law_cell pm__law_cell cd__law_cell ct__law_cell : Value}
    {f__law_form : Addr} {od__law_form an__law_form : Option Addr} {sl__law_form : Array (Option Value)} {oc__law_form kV__law_form dc__law_form pm__law_form cd__law_form ct__law_form : Value}
    {f__law_copy : Addr} {od__law_copy an__law_copy : Option Addr} {sl__law_copy : Array (Option Value)} {oc__law_copy kV__law_copy dc__law_copy pm__law_copy cd__law_copy ct__law_copy : Value}
    {f__law_some_names : Addr} {od__law_some_names an__law_some_names : Option Addr} {sl__law_some_names : Array (Option Value)} {oc__law_some_names kV__law_some_names dc__law_some_names pm__law_some_names cd__law_some_names ct__law_some_names : Value}
    {f_law : Addr} {od_law an_law : Option Addr} {sl_law : Array (Option Value)} {oc_law kV_law dc_law pm_law cd_law ct_law : Value}
    {t_MOST_BOXES : Tok}
    {t_MOST_ARROWS : Tok}
    {c_TurnError : Addr}
    {c_NoForm : Addr}
    {c_NoBox : Addr}
    {c_NoNames : Addr}
    (a_is_form : PySem.W.nsIn K mainGlobals "is_form" = some (some (.ref f_is_form))) (l_is_form : K.lookup f_is_form = some ⟨oc_is_form, od_is_form, .func (PySem.W.fnOf "is_form" "is_form" (defArgs s_is_form) (defBody s_is_form) (defScope s_is_form) .none kV_is_form dc_is_form pm_is_form an_is_form cd_is_form ct_is_form), sl_is_form⟩) (c_is_form : PySem.W.codeIn K cd_is_form "is_form" = true) (k_is_form : PySem.W.keepIn K (.ref f_is_form) = true)
    (a_must_form : PySem.W.nsIn K mainGlobals "must_form" = some (some (.ref f_must_form))) (l_must_form : K.lookup f_must_form = some ⟨oc_must_form, od_must_form, .func (PySem.W.fnOf "must_form" "must_form" (defArgs s_must_form) (defBody s_must_form) (defScope s_must_form) .none kV_must_form dc_must_form pm_must_form an_must_form cd_must_form ct_must_form), sl_must_form⟩) (c_must_form : PySem.W.codeIn K cd_must_form "must_form" = true) (k_must_form : PySem.W.keepIn K (.ref f_must_form) = true)
    (a_through : PySem.W.nsIn K mainGlobals "through" = some (some (.ref f_through))) (l_through : K.lookup f_through = some ⟨oc_through, od_through, .func (PySem.W.fnOf "through" "through" (defArgs s_through) (defBody s_through) (defScope s_through) .none kV_through dc_through pm_through an_through cd_through ct_through), sl_through⟩) (c_through : PySem.W.codeIn K cd_through "through" = true) (k_through : PySem.W.keepIn K (.ref f_through) = true)
    (a_turned_by : PySem.W.nsIn K mainGlobals "turned_by" = some (some (.ref f_turned_by))) (l_turned_by : K.lookup f_turned_by = some ⟨oc_turned_by, od_turned_by, .func (PySem.W.fnOf "turned_by" "turned_by" (defArgs s_turned_by) (defBody s_turned_by) (defScope s_turned_by) .none kV_turned_by dc_turned_by pm_turned_by an_turned_by cd_turned_by ct_turned_by), sl_turned_by⟩) (c_turned_by : PySem.W.codeIn K cd_turned_by "turned_by" = true) (k_turned_by : PySem.W.keepIn K (.ref f_turned_by) = true)
    (a_turned : PySem.W.nsIn K mainGlobals "turned" = some (some (.ref f_turned))) (l_turned : K.lookup f_turned = some ⟨oc_turned, od_turned, .func (PySem.W.fnOf "turned" "turned" (defArgs s_turned) (defBody s_turned) (defScope s_turned) .none kV_turned dc_turned pm_turned an_turned cd_turned ct_turned), sl_turned⟩) (c_turned : PySem.W.codeIn K cd_turned "turned" = true) (k_turned : PySem.W.keepIn K (.ref f_turned) = true)
    (a_renamed_by : PySem.W.nsIn K mainGlobals "renamed_by" = some (some (.ref f_renamed_by))) (l_renamed_by : K.lookup f_renamed_by = some ⟨oc_renamed_by, od_renamed_by, .func (PySem.W.fnOf "renamed_by" "renamed_by" (defArgs s_renamed_by) (defBody s_renamed_by) (defScope s_renamed_by) .none kV_renamed_by dc_renamed_by pm_renamed_by an_renamed_by cd_renamed_by ct_renamed_by), sl_renamed_by⟩) (c_renamed_by : PySem.W.codeIn K cd_renamed_by "renamed_by" = true) (k_renamed_by : PySem.W.keepIn K (.ref f_renamed_by) = true)
    (a_renamed : PySem.W.nsIn K mainGlobals "renamed" = some (some (.ref f_renamed))) (l_renamed : K.lookup f_renamed = some ⟨oc_renamed, od_renamed, .func (PySem.W.fnOf "renamed" "renamed" (defArgs s_renamed) (defBody s_renamed) (defScope s_renamed) .none kV_renamed dc_renamed pm_renamed an_renamed cd_renamed ct_renamed), sl_renamed⟩) (c_renamed : PySem.W.codeIn K cd_renamed "renamed" = true) (k_renamed : PySem.W.keepIn K (.ref f_renamed) = true)
    (a_determinant : PySem.W.nsIn K mainGlobals "determinant" = some (some (.ref f_determinant))) (l_determinant : K.lookup f_determinant = some ⟨oc_determinant, od_determinant, .func (PySem.W.fnOf "determinant" "determinant" (defArgs s_determinant) (defBody s_determinant) (defScope s_determinant) .none kV_determinant dc_determinant pm_determinant an_determinant cd_determinant ct_determinant), sl_determinant⟩) (c_determinant : PySem.W.codeIn K cd_determinant "determinant" = true) (k_determinant : PySem.W.keepIn K (.ref f_determinant) = true)
    (a_step_of : PySem.W.nsIn K mainGlobals "step_of" = some (some (.ref f_step_of))) (l_step_of : K.lookup f_step_of = some ⟨oc_step_of, od_step_of, .func (PySem.W.fnOf "step_of" "step_of" (defArgs s_step_of) (defBody s_step_of) (defScope s_step_of) .none kV_step_of dc_step_of pm_step_of an_step_of cd_step_of ct_step_of), sl_step_of⟩) (c_step_of : PySem.W.codeIn K cd_step_of "step_of" = true) (k_step_of : PySem.W.keepIn K (.ref f_step_of) = true)
    (a_kept : PySem.W.nsIn K mainGlobals "kept" = some (some (.ref f_kept))) (l_kept : K.lookup f_kept = some ⟨oc_kept, od_kept, .func (PySem.W.fnOf "kept" "kept" (defArgs s_kept) (defBody s_kept) (defScope s_kept) .none kV_kept dc_kept pm_kept an_kept cd_kept ct_kept), sl_kept⟩) (c_kept : PySem.W.codeIn K cd_kept "kept" = true) (k_kept : PySem.W.keepIn K (.ref f_kept) = true)
    (a__law_cell : PySem.W.nsIn K mainGlobals "_law_cell" = some (some (.ref f__law_cell))) (l__law_cell : K.lookup f__law_cell = some ⟨oc__law_cell, od__law_cell, .func (PySem.W.fnOf "_law_cell" "_law_cell" (defArgs s__law_cell) (defBody s__law_cell) (defScope s__law_cell) .none kV__law_cell dc__law_cell pm__law_cell an__law_cell cd__law_cell ct__law_cell), sl__law_cell⟩) (c__law_cell : PySem.W.codeIn K cd__law_cell "_law_cell" = true) (k__law_cell : PySem.W.keepIn K (.ref f__law_cell) = true)
    (a__law_form : PySem.W.nsIn K mainGlobals "_law_form" = some (some (.ref f__law_form))) (l__law_form : K.lookup f__law_form = some ⟨oc__law_form, od__law_form, .func (PySem.W.fnOf "_law_form" "_law_form" (defArgs s__law_form) (defBody s__law_form) (defScope s__law_form) .none kV__law_form dc__law_form pm__law_form an__law_form cd__law_form ct__law_form), sl__law_form⟩) (c__law_form : PySem.W.codeIn K cd__law_form "_law_form" = true) (k__law_form : PySem.W.keepIn K (.ref f__law_form) = true)
    (a__law_copy : PySem.W.nsIn K mainGlobals "_law_copy" = some (some (.ref f__law_copy))) (l__law_copy : K.lookup f__law_copy = some ⟨oc__law_copy, od__law_copy, .func (PySem.W.fnOf "_law_copy" "_law_copy" (defArgs s__law_copy) (defBody s__law_copy) (defScope s__law_copy) .none kV__law_copy dc__law_copy pm__law_copy an__law_copy cd__law_copy ct__law_copy), sl__law_copy⟩) (c__law_copy : PySem.W.codeIn K cd__law_copy "_law_copy" = true) (k__law_copy : PySem.W.keepIn K (.ref f__law_copy) = true)
    (a__law_some_names : PySem.W.nsIn K mainGlobals "_law_some_names" = some (some (.ref f__law_some_names))) (l__law_some_names : K.lookup f__law_some_names = some ⟨oc__law_some_names, od__law_some_names, .func (PySem.W.fnOf "_law_some_names" "_law_some_names" (defArgs s__law_some_names) (defBody s__law_some_names) (defScope s__law_some_names) .none kV__law_some_names dc__law_some_names pm__law_some_names an__law_some_names cd__law_some_names ct__law_some_names), sl__law_some_names⟩) (c__law_some_names : PySem.W.codeIn K cd__law_some_names "_law_some_names" = true) (k__law_some_names : PySem.W.keepIn K (.ref f__law_some_names) = true)
    (a_law : PySem.W.nsIn K mainGlobals "law" = some (some (.ref f_law))) (l_law : K.lookup f_law = some ⟨oc_law, od_law, .func (PySem.W.fnOf "law" "law" (defArgs s_law) (defBody s_law) (defScope s_law) .none kV_law dc_law pm_law an_law cd_law ct_law), sl_law⟩) (c_law : PySem.W.codeIn K cd_law "law" = true) (k_law : PySem.W.keepIn K (.ref f_law) = true)
    (m_MOST_BOXES : PySem.W.nsIn K mainGlobals "MOST_BOXES" = some (some (.int 6 t_MOST_BOXES)))
    (m_MOST_ARROWS : PySem.W.nsIn K mainGlobals "MOST_ARROWS" = some (some (.int 99 t_MOST_ARROWS)))
    (g_TurnError : PySem.W.nsIn K mainGlobals "TurnError" = some (some (.ref c_TurnError)))
    (xxn_TurnError : PySem.W.excIn K c_TurnError [.type "ValueError", .type "Exception", .type "BaseException", .type "object"] "ValueError.__new__" = true)
    (xkp_TurnError : PySem.W.keepIn K (.ref c_TurnError) = true)
    (xbs_TurnError : PySem.W.subIn K (.ref c_TurnError) (.type "BaseException") = some true)
    (xty_TurnError : PySem.W.typeIn K (.ref c_TurnError) = some (.type "type"))
    (xic_TurnError : PySem.W.isClsIn K c_TurnError = true)
    (xhg_TurnError : PySem.W.findIn K (.ref c_TurnError) "__getattribute__" = some (some (.builtin "BaseException.__getattribute__")))
    (xhk_TurnError : PySem.W.findIn K (.ref c_TurnError) "__getattr__" = some none)
    (xhd_TurnError : PySem.W.hasDictIn K c_TurnError = true)
    (xha_TurnError : PySem.W.findIn K (.ref c_TurnError) "__class__" = some (some (.builtin "object.__class__")))
    (xhn_TurnError : PySem.W.specialIn K (.builtin "object.__class__") "__get__" = some (some (.builtin "getset_descriptor.__get__")))
    (xht_TurnError : PySem.W.takesIn K (.builtin "object.__class__") = some true)
    (xhm_TurnError : PySem.W.mroIn K c_TurnError (.type "object") = some true)
    (xvs_TurnError : PySem.W.subIn K (.ref c_TurnError) (.type "ValueError") = some true)
    (g_NoForm : PySem.W.nsIn K mainGlobals "NoForm" = some (some (.ref c_NoForm)))
    (xxn_NoForm : PySem.W.excIn K c_NoForm [.type "ValueError", .type "Exception", .type "BaseException", .type "object"] "ValueError.__new__" = true)
    (xkp_NoForm : PySem.W.keepIn K (.ref c_NoForm) = true)
    (xbs_NoForm : PySem.W.subIn K (.ref c_NoForm) (.type "BaseException") = some true)
    (xty_NoForm : PySem.W.typeIn K (.ref c_NoForm) = some (.type "type"))
    (xic_NoForm : PySem.W.isClsIn K c_NoForm = true)
    (xhg_NoForm : PySem.W.findIn K (.ref c_NoForm) "__getattribute__" = some (some (.builtin "BaseException.__getattribute__")))
    (xhk_NoForm : PySem.W.findIn K (.ref c_NoForm) "__getattr__" = some none)
    (xhd_NoForm : PySem.W.hasDictIn K c_NoForm = true)
    (xha_NoForm : PySem.W.findIn K (.ref c_NoForm) "__class__" = some (some (.builtin "object.__class__")))
    (xhn_NoForm : PySem.W.specialIn K (.builtin "object.__class__") "__get__" = some (some (.builtin "getset_descriptor.__get__")))
    (xht_NoForm : PySem.W.takesIn K (.builtin "object.__class__") = some true)
    (xhm_NoForm : PySem.W.mroIn K c_NoForm (.type "object") = some true)
    (xvs_NoForm : PySem.W.subIn K (.ref c_NoForm) (.type "ValueError") = some true)
    (g_NoBox : PySem.W.nsIn K mainGlobals "NoBox" = some (some (.ref c_NoBox)))
    (xxn_NoBox : PySem.W.excIn K c_NoBox [.type "ValueError", .type "Exception", .type "BaseException", .type "object"] "ValueError.__new__" = true)
    (xkp_NoBox : PySem.W.keepIn K (.ref c_NoBox) = true)
    (xbs_NoBox : PySem.W.subIn K (.ref c_NoBox) (.type "BaseException") = some true)
    (xty_NoBox : PySem.W.typeIn K (.ref c_NoBox) = some (.type "type"))
    (xic_NoBox : PySem.W.isClsIn K c_NoBox = true)
    (xhg_NoBox : PySem.W.findIn K (.ref c_NoBox) "__getattribute__" = some (some (.builtin "BaseException.__getattribute__")))
    (xhk_NoBox : PySem.W.findIn K (.ref c_NoBox) "__getattr__" = some none)
    (xhd_NoBox : PySem.W.hasDictIn K c_NoBox = true)
    (xha_NoBox : PySem.W.findIn K (.ref c_NoBox) "__class__" = some (some (.builtin "object.__class__")))
    (xhn_NoBox : PySem.W.specialIn K (.builtin "object.__class__") "__get__" = some (some (.builtin "getset_descriptor.__get__")))
    (xht_NoBox : PySem.W.takesIn K (.builtin "object.__class__") = some true)
    (xhm_NoBox : PySem.W.mroIn K c_NoBox (.type "object") = some true)
    (xvs_NoBox : PySem.W.subIn K (.ref c_NoBox) (.type "ValueError") = some true)
    (g_NoNames : PySem.W.nsIn K mainGlobals "NoNames" = some (some (.ref c_NoNames)))
    (xxn_NoNames : PySem.W.excIn K c_NoNames [.type "ValueError", .type "Exception", .type "BaseException", .type "object"] "ValueError.__new__" = true)
    (xkp_NoNames : PySem.W.keepIn K (.ref c_NoNames) = true)
    (xbs_NoNames : PySem.W.subIn K (.ref c_NoNames) (.type "BaseException") = some true)
    (xty_NoNames : PySem.W.typeIn K (.ref c_NoNames) = some (.type "type"))
    (xic_NoNames : PySem.W.isClsIn K c_NoNames = true)
    (xhg_NoNames : PySem.W.findIn K (.ref c_NoNames) "__getattribute__" = some (some (.builtin "BaseException.__getattribute__")))
    (xhk_NoNames : PySem.W.findIn K (.ref c_NoNames) "__getattr__" = some none)
    (xhd_NoNames : PySem.W.hasDictIn K c_NoNames = true)
    (xha_NoNames : PySem.W.findIn K (.ref c_NoNames) "__class__" = some (some (.builtin "object.__class__")))
    (xhn_NoNames : PySem.W.specialIn K (.builtin "object.__class__") "__get__" = some (some (.builtin "getset_descriptor.__get__")))
    (xht_NoNames : PySem.W.takesIn K (.builtin "object.__class__") = some true)
    (xhm_NoNames : PySem.W.mroIn K c_NoNames (.type "object") = some true)
    (xvs_NoNames : PySem.W.subIn K (.ref c_NoNames) (.type "ValueError") = some true)
    (u_TurnError_TurnError : PySem.W.subIn K (.ref c_TurnError) (.ref c_TurnError) = some true)
    (u_TurnError_NoForm : PySem.W.subIn K (.ref c_TurnError) (.ref c_NoForm) = some false)
    (u_TurnError_NoBox : PySem.W.subIn K (.ref c_TurnError) (.ref c_NoBox) = some false)
    (u_TurnError_NoNames : PySem.W.subIn K (.ref c_TurnError) (.ref c_NoNames) = some false)
    (u_NoForm_TurnError : PySem.W.subIn K (.ref c_NoForm) (.ref c_TurnError) = some true)
    (u_NoForm_NoForm : PySem.W.subIn K (.ref c_NoForm) (.ref c_NoForm) = some true)
    (u_NoForm_NoBox : PySem.W.subIn K (.ref c_NoForm) (.ref c_NoBox) = some false)
    (u_NoForm_NoNames : PySem.W.subIn K (.ref c_NoForm) (.ref c_NoNames) = some false)
    (u_NoBox_TurnError : PySem.W.subIn K (.ref c_NoBox) (.ref c_TurnError) = some true)
    (u_NoBox_NoForm : PySem.W.subIn K (.ref c_NoBox) (.ref c_NoForm) = some false)
    (u_NoBox_NoBox : PySem.W.subIn K (.ref c_NoBox) (.ref c_NoBox) = some true)
    (u_NoBox_NoNames : PySem.W.subIn K (.ref c_NoBox) (.ref c_NoNames) = some false)
    (u_NoNames_TurnError : PySem.W.subIn K (.ref c_NoNames) (.ref c_TurnError) = some true)
    (u_NoNames_NoForm : PySem.W.subIn K (.ref c_NoNames) (.ref c_NoForm) = some false)
    (u_NoNames_NoBox : PySem.W.subIn K (.ref c_NoNames) (.ref c_NoBox) = some false)
    (u_NoNames_NoNames : PySem.W.subIn K (.ref c_NoNames) (.ref c_NoNames) = some true)
    (b_len : PySem.W.nsIn K mainGlobals "len" = some none)
    (b_range : PySem.W.nsIn K mainGlobals "range" = some none)
    (b_abs : PySem.W.nsIn K mainGlobals "abs" = some none)
    (b_sorted : PySem.W.nsIn K mainGlobals "sorted" = some none)
    (b_list : PySem.W.nsIn K mainGlobals "list" = some none)
    (b_zip : PySem.W.nsIn K mainGlobals "zip" = some none)
    (b_max : PySem.W.nsIn K mainGlobals "max" = some none)
    : ∃ fd : FuncData, (∀ (s : Shared) (v : Value), BindsTo s fd ⟨[v], []⟩ [("script", v)]) ∧ ∀ base : Heap, K.In base → base.Ns mainGlobals mg → FnOk l.prog w K mg base CX0 LEVEL fa fd ["script"] (sp_law K) := by
  have e := hfa.symm.trans (PySem.W.mg_of X G a_law)
  cases e
  let T : Txt K mg := {
    f_is_form := f_is_form, d_is_form := _, F_is_form := fun_mk (st := s_is_form) l_is_form c_is_form k_is_form, m_is_form := PySem.W.mg_of X G a_is_form,
    b_is_form := (fun_mk (st := s_is_form) l_is_form c_is_form k_is_form).binds (ps := ["form"]) fun _ _ _ _ _ _ us hl => match us, hl with | [_], _ => rfl,
    f_must_form := f_must_form, d_must_form := _, F_must_form := fun_mk (st := s_must_form) l_must_form c_must_form k_must_form, m_must_form := PySem.W.mg_of X G a_must_form,
    b_must_form := (fun_mk (st := s_must_form) l_must_form c_must_form k_must_form).binds (ps := ["form"]) fun _ _ _ _ _ _ us hl => match us, hl with | [_], _ => rfl,
    f_through := f_through, d_through := _, F_through := fun_mk (st := s_through) l_through c_through k_through, m_through := PySem.W.mg_of X G a_through,
    b_through := (fun_mk (st := s_through) l_through c_through k_through).binds (ps := ["one", "other"]) fun _ _ _ _ _ _ us hl => match us, hl with | [_, _], _ => rfl,
    f_turned_by := f_turned_by, d_turned_by := _, F_turned_by := fun_mk (st := s_turned_by) l_turned_by c_turned_by k_turned_by, m_turned_by := PySem.W.mg_of X G a_turned_by,
    b_turned_by := (fun_mk (st := s_turned_by) l_turned_by c_turned_by k_turned_by).binds (ps := ["form", "box"]) fun _ _ _ _ _ _ us hl => match us, hl with | [_, _], _ => rfl,
    f_turned := f_turned, d_turned := _, F_turned := fun_mk (st := s_turned) l_turned c_turned k_turned, m_turned := PySem.W.mg_of X G a_turned,
    b_turned := (fun_mk (st := s_turned) l_turned c_turned k_turned).binds (ps := ["form", "box"]) fun _ _ _ _ _ _ us hl => match us, hl with | [_, _], _ => rfl,
    f_renamed_by := f_renamed_by, d_renamed_by := _, F_renamed_by := fun_mk (st := s_renamed_by) l_renamed_by c_renamed_by k_renamed_by, m_renamed_by := PySem.W.mg_of X G a_renamed_by,
    b_renamed_by := (fun_mk (st := s_renamed_by) l_renamed_by c_renamed_by k_renamed_by).binds (ps := ["form", "names"]) fun _ _ _ _ _ _ us hl => match us, hl with | [_, _], _ => rfl,
    f_renamed := f_renamed, d_renamed := _, F_renamed := fun_mk (st := s_renamed) l_renamed c_renamed k_renamed, m_renamed := PySem.W.mg_of X G a_renamed,
    b_renamed := (fun_mk (st := s_renamed) l_renamed c_renamed k_renamed).binds (ps := ["form", "names"]) fun _ _ _ _ _ _ us hl => match us, hl with | [_, _], _ => rfl,
    f_determinant := f_determinant, d_determinant := _, F_determinant := fun_mk (st := s_determinant) l_determinant c_determinant k_determinant, m_determinant := PySem.W.mg_of X G a_determinant,
    b_determinant := (fun_mk (st := s_determinant) l_determinant c_determinant k_determinant).binds (ps := ["form"]) fun _ _ _ _ _ _ us hl => match us, hl with | [_], _ => rfl,
    f_step_of := f_step_of, d_step_of := _, F_step_of := fun_mk (st := s_step_of) l_step_of c_step_of k_step_of, m_step_of := PySem.W.mg_of X G a_step_of,
    b_step_of := (fun_mk (st := s_step_of) l_step_of c_step_of k_step_of).binds (ps := ["row"]) fun _ _ _ _ _ _ us hl => match us, hl with | [_], _ => rfl,
    f_kept := f_kept, d_kept := _, F_kept := fun_mk (st := s_kept) l_kept c_kept k_kept, m_kept := PySem.W.mg_of X G a_kept,
    b_kept := (fun_mk (st := s_kept) l_kept c_kept k_kept).binds (ps := ["form"]) fun _ _ _ _ _ _ us hl => match us, hl with | [_], _ => rfl,
    f__law_cell := f__law_cell, d__law_cell := _, F__law_cell := fun_mk (st := s__law_cell) l__law_cell c__law_cell k__law_cell, m__law_cell := PySem.W.mg_of X G a__law_cell,
    b__law_cell := (fun_mk (st := s__law_cell) l__law_cell c__law_cell k__law_cell).binds (ps := ["script", "k"]) fun _ _ _ _ _ _ us hl => match us, hl with | [_, _], _ => rfl,
    f__law_form := f__law_form, d__law_form := _, F__law_form := fun_mk (st := s__law_form) l__law_form c__law_form k__law_form, m__law_form := PySem.W.mg_of X G a__law_form,
    b__law_form := (fun_mk (st := s__law_form) l__law_form c__law_form k__law_form).binds (ps := ["script", "k", "most"]) fun _ _ _ _ _ _ us hl => match us, hl with | [_, _, _], _ => rfl,
    f__law_copy := f__law_copy, d__law_copy := _, F__law_copy := fun_mk (st := s__law_copy) l__law_copy c__law_copy k__law_copy, m__law_copy := PySem.W.mg_of X G a__law_copy,
    b__law_copy := (fun_mk (st := s__law_copy) l__law_copy c__law_copy k__law_copy).binds (ps := ["form"]) fun _ _ _ _ _ _ us hl => match us, hl with | [_], _ => rfl,
    f__law_some_names := f__law_some_names, d__law_some_names := _, F__law_some_names := fun_mk (st := s__law_some_names) l__law_some_names c__law_some_names k__law_some_names, m__law_some_names := PySem.W.mg_of X G a__law_some_names,
    b__law_some_names := (fun_mk (st := s__law_some_names) l__law_some_names c__law_some_names k__law_some_names).binds (ps := ["script", "k", "count"]) fun _ _ _ _ _ _ us hl => match us, hl with | [_, _, _], _ => rfl,
    f_law := _, d_law := _, F_law := fun_mk (st := s_law) l_law c_law k_law, m_law := PySem.W.mg_of X G a_law,
    b_law := (fun_mk (st := s_law) l_law c_law k_law).binds (ps := ["script"]) fun _ _ _ _ _ _ us hl => match us, hl with | [_], _ => rfl,
    t_MOST_BOXES := t_MOST_BOXES, m_MOST_BOXES := PySem.W.mg_of X G m_MOST_BOXES,
    t_MOST_ARROWS := t_MOST_ARROWS, m_MOST_ARROWS := PySem.W.mg_of X G m_MOST_ARROWS,
    c_TurnError := c_TurnError, g_TurnError := PySem.W.mg_of X G g_TurnError, x_TurnError := { g := PySem.W.mg_of X G g_TurnError, xn := xxn_TurnError, kp := xkp_TurnError, bs := xbs_TurnError, ty := xty_TurnError, ic := xic_TurnError, hg := xhg_TurnError, hk := xhk_TurnError, hd := xhd_TurnError, ha := xha_TurnError, hn := xhn_TurnError, ht := xht_TurnError, hm := xhm_TurnError, vs := xvs_TurnError },
    c_NoForm := c_NoForm, g_NoForm := PySem.W.mg_of X G g_NoForm, x_NoForm := { g := PySem.W.mg_of X G g_NoForm, xn := xxn_NoForm, kp := xkp_NoForm, bs := xbs_NoForm, ty := xty_NoForm, ic := xic_NoForm, hg := xhg_NoForm, hk := xhk_NoForm, hd := xhd_NoForm, ha := xha_NoForm, hn := xhn_NoForm, ht := xht_NoForm, hm := xhm_NoForm, vs := xvs_NoForm },
    c_NoBox := c_NoBox, g_NoBox := PySem.W.mg_of X G g_NoBox, x_NoBox := { g := PySem.W.mg_of X G g_NoBox, xn := xxn_NoBox, kp := xkp_NoBox, bs := xbs_NoBox, ty := xty_NoBox, ic := xic_NoBox, hg := xhg_NoBox, hk := xhk_NoBox, hd := xhd_NoBox, ha := xha_NoBox, hn := xhn_NoBox, ht := xht_NoBox, hm := xhm_NoBox, vs := xvs_NoBox },
    c_NoNames := c_NoNames, g_NoNames := PySem.W.mg_of X G g_NoNames, x_NoNames := { g := PySem.W.mg_of X G g_NoNames, xn := xxn_NoNames, kp := xkp_NoNames, bs := xbs_NoNames, ty := xty_NoNames, ic := xic_NoNames, hg := xhg_NoNames, hk := xhk_NoNames, hd := xhd_NoNames, ha := xha_NoNames, hn := xhn_NoNames, ht := xht_NoNames, hm := xhm_NoNames, vs := xvs_NoNames },
    u_TurnError_TurnError := u_TurnError_TurnError,
    u_TurnError_NoForm := u_TurnError_NoForm,
    u_TurnError_NoBox := u_TurnError_NoBox,
    u_TurnError_NoNames := u_TurnError_NoNames,
    u_NoForm_TurnError := u_NoForm_TurnError,
    u_NoForm_NoForm := u_NoForm_NoForm,
    u_NoForm_NoBox := u_NoForm_NoBox,
    u_NoForm_NoNames := u_NoForm_NoNames,
    u_NoBox_TurnError := u_NoBox_TurnError,
    u_NoBox_NoForm := u_NoBox_NoForm,
    u_NoBox_NoBox := u_NoBox_NoBox,
    u_NoBox_NoNames := u_NoBox_NoNames,
    u_NoNames_TurnError := u_NoNames_TurnError,
    u_NoNames_NoForm := u_NoNames_NoForm,
    u_NoNames_NoBox := u_NoNames_NoBox,
    u_NoNames_NoNames := u_NoNames_NoNames,
    b_len := PySem.W.mg_none_of X G b_len,
    b_range := PySem.W.mg_none_of X G b_range,
    b_abs := PySem.W.mg_none_of X G b_abs,
    b_sorted := PySem.W.mg_none_of X G b_sorted,
    b_list := PySem.W.mg_none_of X G b_list,
    b_zip := PySem.W.mg_none_of X G b_zip,
    b_max := PySem.W.mg_none_of X G b_max }
  exact ⟨PySem.W.fnOf "law" "law" (defArgs s_law) (defBody s_law) (defScope s_law) .none kV_law dc_law pm_law an_law cd_law ct_law, fun s v => .of_eq rfl, fun base _ _ => law_ok T⟩
end AT
open PySem PySem.W PyProof.Rows
set_option maxHeartbeats 0 in
theorem PySem.Challenge.cw_arrowturns_k08_whole_no_turn_changes_the_holds : PySem.Challenge.rw_arrowturns_k08_whole_no_turn_changes_the.Holds := by
  w_on; o_law; k_head; (case hw => w_witness2)
  k_fill
  refine L2.walk_of (l := PySem.Challenge.rw_arrowturns_k08_whole_no_turn_changes_the) (n := 63) (k := AT.LEVEL) (x := "script") (CX := fun _ => L2.CX0) (sp := fun w => AT.sp_law _) rfl (by decide) rfl ⟨rfl, by decide, by decide⟩ (fun w h Y => PySem.W.kIn_of Y) ?F (fun _ _ a ns hl _ hS => ⟨a, ns, rfl, hS, hl, fun _ => rfl⟩) (fun _ _ _ _ _ h => h)
  case F =>
    intro w mg fa h KX G hmg
    refine' AT.all_mk KX G hmg ?a_is_form ?l_is_form ?c_is_form ?k_is_form ?a_must_form ?l_must_form ?c_must_form ?k_must_form ?a_through ?l_through ?c_through ?k_through ?a_turned_by ?l_turned_by ?c_turned_by ?k_turned_by ?a_turned ?l_turned ?c_turned ?k_turned ?a_renamed_by ?l_renamed_by ?c_renamed_by ?k_renamed_by ?a_renamed ?l_renamed ?c_renamed ?k_renamed ?a_determinant ?l_determinant ?c_determinant ?k_determinant ?a_step_of ?l_step_of ?c_step_of ?k_step_of ?a_kept ?l_kept ?c_kept ?k_kept ?a__law_cell ?l__law_cell ?c__law_cell ?k__law_cell ?a__law_form ?l__law_form ?c__law_form ?k__law_form ?a__law_copy ?l__law_copy ?c__law_copy ?k__law_copy ?a__law_some_names ?l__law_some_names ?c__law_some_names ?k__law_some_names ?a_law ?l_law ?c_law ?k_law ?m_MOST_BOXES ?m_MOST_ARROWS ?g_TurnError ?xxn_TurnError ?xkp_TurnError ?xbs_TurnError ?xty_TurnError ?xic_TurnError ?xhg_TurnError ?xhk_TurnError ?xhd_TurnError ?xha_TurnError ?xhn_TurnError ?xht_TurnError ?xhm_TurnError ?xvs_TurnError ?g_NoForm ?xxn_NoForm ?xkp_NoForm ?xbs_NoForm ?xty_NoForm ?xic_NoForm ?xhg_NoForm ?xhk_NoForm ?xhd_NoForm ?xha_NoForm ?xhn_NoForm ?xht_NoForm ?xhm_NoForm ?xvs_NoForm ?g_NoBox ?xxn_NoBox ?xkp_NoBox ?xbs_NoBox ?xty_NoBox ?xic_NoBox ?xhg_NoBox ?xhk_NoBox ?xhd_NoBox ?xha_NoBox ?xhn_NoBox ?xht_NoBox ?xhm_NoBox ?xvs_NoBox ?g_NoNames ?xxn_NoNames ?xkp_NoNames ?xbs_NoNames ?xty_NoNames ?xic_NoNames ?xhg_NoNames ?xhk_NoNames ?xhd_NoNames ?xha_NoNames ?xhn_NoNames ?xht_NoNames ?xhm_NoNames ?xvs_NoNames ?u_TurnError_TurnError ?u_TurnError_NoForm ?u_TurnError_NoBox ?u_TurnError_NoNames ?u_NoForm_TurnError ?u_NoForm_NoForm ?u_NoForm_NoBox ?u_NoForm_NoNames ?u_NoBox_TurnError ?u_NoBox_NoForm ?u_NoBox_NoBox ?u_NoBox_NoNames ?u_NoNames_TurnError ?u_NoNames_NoForm ?u_NoNames_NoBox ?u_NoNames_NoNames ?b_len ?b_range ?b_abs ?b_sorted ?b_list ?b_zip ?b_max
    (case a_is_form => k_is)
    (case l_is_form => k_is)
    (case c_is_form => k_is)
    (case k_is_form => k_is)
    (case a_must_form => k_is)
    (case l_must_form => k_is)
    (case c_must_form => k_is)
    (case k_must_form => k_is)
    (case a_through => k_is)
    (case l_through => k_is)
    (case c_through => k_is)
    (case k_through => k_is)
    (case a_turned_by => k_is)
    (case l_turned_by => k_is)
    (case c_turned_by => k_is)
    (case k_turned_by => k_is)
    (case a_turned => k_is)
    (case l_turned => k_is)
    (case c_turned => k_is)
    (case k_turned => k_is)
    (case a_renamed_by => k_is)
    (case l_renamed_by => k_is)
    (case c_renamed_by => k_is)
    (case k_renamed_by => k_is)
    (case a_renamed => k_is)
    (case l_renamed => k_is)
    (case c_renamed => k_is)
    (case k_renamed => k_is)
    (case a_determinant => k_is)
    (case l_determinant => k_is)
    (case c_determinant => k_is)
    (case k_determinant => k_is)
    (case a_step_of => k_is)
    (case l_step_of => k_is)
    (case c_step_of => k_is)
    (case k_step_of => k_is)
    (case a_kept => k_is)
    (case l_kept => k_is)
    (case c_kept => k_is)
    (case k_kept => k_is)
    (case a__law_cell => k_is)
    (case l__law_cell => k_is)
    (case c__law_cell => k_is)
    (case k__law_cell => k_is)
    (case a__law_form => k_is)
    (case l__law_form => k_is)
    (case c__law_form => k_is)
    (case k__law_form => k_is)
    (case a__law_copy => k_is)
    (case l__law_copy => k_is)
    (case c__law_copy => k_is)
    (case k__law_copy => k_is)
    (case a__law_some_names => k_is)
    (case l__law_some_names => k_is)
    (case c__law_some_names => k_is)
    (case k__law_some_names => k_is)
    (case a_law => k_is)
    (case l_law => k_is)
    (case c_law => k_is)
    (case k_law => k_is)
    (case m_MOST_BOXES => k_is)
    (case m_MOST_ARROWS => k_is)
    (case g_TurnError => k_is)
    (case xxn_TurnError => k_exc)
    (case xkp_TurnError => k_is)
    (case xbs_TurnError => k_is)
    (case xty_TurnError => k_is)
    (case xic_TurnError => k_is)
    (case xhg_TurnError => k_is)
    (case xhk_TurnError => k_is)
    (case xhd_TurnError => k_is)
    (case xha_TurnError => k_is)
    (case xhn_TurnError => k_is)
    (case xht_TurnError => k_is)
    (case xhm_TurnError => k_is)
    (case xvs_TurnError => k_is)
    (case g_NoForm => k_is)
    (case xxn_NoForm => k_exc)
    (case xkp_NoForm => k_is)
    (case xbs_NoForm => k_is)
    (case xty_NoForm => k_is)
    (case xic_NoForm => k_is)
    (case xhg_NoForm => k_is)
    (case xhk_NoForm => k_is)
    (case xhd_NoForm => k_is)
    (case xha_NoForm => k_is)
    (case xhn_NoForm => k_is)
    (case xht_NoForm => k_is)
    (case xhm_NoForm => k_is)
    (case xvs_NoForm => k_is)
    (case g_NoBox => k_is)
    (case xxn_NoBox => k_exc)
    (case xkp_NoBox => k_is)
    (case xbs_NoBox => k_is)
    (case xty_NoBox => k_is)
    (case xic_NoBox => k_is)
    (case xhg_NoBox => k_is)
    (case xhk_NoBox => k_is)
    (case xhd_NoBox => k_is)
    (case xha_NoBox => k_is)
    (case xhn_NoBox => k_is)
    (case xht_NoBox => k_is)
    (case xhm_NoBox => k_is)
    (case xvs_NoBox => k_is)
    (case g_NoNames => k_is)
    (case xxn_NoNames => k_exc)
    (case xkp_NoNames => k_is)
    (case xbs_NoNames => k_is)
    (case xty_NoNames => k_is)
    (case xic_NoNames => k_is)
    (case xhg_NoNames => k_is)
    (case xhk_NoNames => k_is)
    (case xhd_NoNames => k_is)
    (case xha_NoNames => k_is)
    (case xhn_NoNames => k_is)
    (case xht_NoNames => k_is)
    (case xhm_NoNames => k_is)
    (case xvs_NoNames => k_is)
    (case u_TurnError_TurnError => k_is)
    (case u_TurnError_NoForm => k_is)
    (case u_TurnError_NoBox => k_is)
    (case u_TurnError_NoNames => k_is)
    (case u_NoForm_TurnError => k_is)
    (case u_NoForm_NoForm => k_is)
    (case u_NoForm_NoBox => k_is)
    (case u_NoForm_NoNames => k_is)
    (case u_NoBox_TurnError => k_is)
    (case u_NoBox_NoForm => k_is)
    (case u_NoBox_NoBox => k_is)
    (case u_NoBox_NoNames => k_is)
    (case u_NoNames_TurnError => k_is)
    (case u_NoNames_NoForm => k_is)
    (case u_NoNames_NoBox => k_is)
    (case u_NoNames_NoNames => k_is)
    (case b_len => k_is)
    (case b_range => k_is)
    (case b_abs => k_is)
    (case b_sorted => k_is)
    (case b_list => k_is)
    (case b_zip => k_is)
    (case b_max => k_is)

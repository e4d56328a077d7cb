import PyProof.Rows.All
import Wide.All
import OpenK.AllK
import Wide.FinOn
import PyProof.EqAt
import PyProof.EqKinds
import PyProof.TupleCall
import PySem.Challenge.RW_arrowturns_k13_cuts_and_their_forms
import HandS.ForMost
import HandS.Evl
import HandS.Exc
import HandS.ExcOwn
import HandS.TryOnly
import HandS.WordsExc
import HandS.IsInst
import HandS.ExcIs
import HandS.HotCalls
import HandS.Wide
import HandS.Zip
import HandS.Conv
import HandS.More
import HandS.Style
import HandS.Deep
import HandS.Walk
import KE.DatumOrd
import KE.DataCmp
import KE.DataMinMax
import KE.SortData
import KE.KTupSum
set_option Elab.async false
set_option linter.all false
set_option maxRecDepth 100000
set_option maxHeartbeats 4000000

/-! ## the layer of these proofs: lists of lists, what a reading tells of them -/
namespace AT
open PySem PySem.Spec PyProof.Rows L2 Evl
abbrev St := L2.St
abbrev Frag := PySem.W.Frag

theorem bfF {p : Prop} (h : ¬ p) : (false = true ↔ p) := ⟨fun z => (Bool.false_ne_true z).elim, fun z => (h z).elim⟩
theorem bfT {p : Prop} (h : p) : (true = true ↔ p) := ⟨fun _ => h, fun _ => rfl⟩
/-- whether p holds -/
noncomputable def dec (p : Prop) : Bool := @decide p (Classical.propDecidable p)
theorem dec_eq {b : Bool} {p : Prop} (h : b = true ↔ p) : b = dec p := by
  unfold dec
  cases b with
  | true => exact (@decide_eq_true p (Classical.propDecidable p) (h.mp rfl)).symm
  | false => exact (@decide_eq_false p (Classical.propDecidable p) fun z => Bool.false_ne_true (h.mpr z)).symm
theorem dec_true {p : Prop} (h : p) : dec p = true := (dec_eq (bfT h)).symm
theorem dec_false {p : Prop} (h : ¬ p) : dec p = false := (dec_eq (bfF h)).symm
theorem of_dec {p : Prop} (h : dec p = true) : p := Classical.byContradiction fun z => by
  rw [dec_false z] at h
  exact Bool.false_ne_true h
theorem of_dec_f {p : Prop} (h : dec p = false) : ¬ p := fun z => by
  rw [dec_true z] at h
  exact Bool.noConfusion h
/-! ### lists of ints, of lists of ints -/
def LI (K : Frag) (H : Hp) (a : Addr) (xs : List Int) : Prop := SqL K H a (xs.map V.int)
def LLI (K : Frag) (H : Hp) (a : Addr) (M : List (List Int)) : Prop := ∃ as : List Addr, SqL K H a (as.map V.ref) ∧ Paired (fun x r => LI K H x r) as M
/-- of our own making: behind H0 -/
def OLI (H0 H : Hp) (a : Addr) (xs : List Int) : Prop := H0 a = none ∧ H a = some (.lst (xs.map V.int))
def OLLI (H0 H : Hp) (a : Addr) (M : List (List Int)) : Prop := ∃ as : List Addr, H0 a = none ∧ H a = some (.lst (as.map V.ref)) ∧ (a :: as).Nodup ∧ Paired (fun x r => OLI H0 H x r) as M

theorem paired_mono {α β : Type} {F G : α → β → Prop} : ∀ {l₁ : List α} {l₂ : List β}, Paired F l₁ l₂ → (∀ a b, F a b → G a b) → Paired G l₁ l₂
  | _, _, .nil, _ => .nil
  | _, _, .cons r t, f => .cons (f _ _ r) (paired_mono t f)
theorem paired_mem_mono {α β : Type} {F G : α → β → Prop} : ∀ {l₁ : List α} {l₂ : List β}, Paired F l₁ l₂ → (∀ a b, a ∈ l₁ → F a b → G a b) → Paired G l₁ l₂
  | _, _, .nil, _ => .nil
  | _, _, .cons r t, f => .cons (f _ _ List.mem_cons_self r) (paired_mem_mono t fun a b h => f a b (List.mem_cons_of_mem _ h))
theorem paired_get {α β : Type} {F : α → β → Prop} : ∀ {l₁ : List α} {l₂ : List β} {i : Nat} {y : β}, Paired F l₁ l₂ → l₂[i]? = some y → ∃ x, l₁[i]? = some x ∧ F x y
  | _, _, _, _, .nil, e => by simp at e
  | _, _, 0, _, .cons r _, e => by simp at e; subst e; exact ⟨_, rfl, r⟩
  | _, _, i + 1, y, .cons _ t, e => by
    obtain ⟨u, h1, h2⟩ := paired_get (i := i) (y := y) t (by simpa using e)
    exact ⟨u, by simpa using h1, h2⟩
theorem paired_getL {α β : Type} {F : α → β → Prop} : ∀ {l₁ : List α} {l₂ : List β} {i : Nat} {x : α}, Paired F l₁ l₂ → l₁[i]? = some x → ∃ y, l₂[i]? = some y ∧ F x y
  | _, _, _, _, .nil, e => by simp at e
  | _, _, 0, _, .cons r _, e => by simp at e; subst e; exact ⟨_, rfl, r⟩
  | _, _, i + 1, y, .cons _ t, e => by
    obtain ⟨u, h1, h2⟩ := paired_getL (i := i) (x := y) t (by simpa using e)
    exact ⟨u, by simpa using h1, h2⟩
theorem paired_append {α β : Type} {F : α → β → Prop} : ∀ {l₁ k₁ : List α} {l₂ k₂ : List β}, Paired F l₁ l₂ → Paired F k₁ k₂ → Paired F (l₁ ++ k₁) (l₂ ++ k₂)
  | _, _, _, _, .nil, h => h
  | _, _, _, _, .cons r t, h => .cons r (paired_append t h)
theorem paired_mem {α β : Type} {F : α → β → Prop} : ∀ {l₁ : List α} {l₂ : List β} {x : α}, Paired F l₁ l₂ → x ∈ l₁ → ∃ y, y ∈ l₂ ∧ F x y
  | _, _, _, .nil, e => by cases e
  | _, _, _, .cons r t, e => by
    rcases List.mem_cons.mp e with rfl | e
    · exact ⟨_, List.mem_cons_self, r⟩
    · obtain ⟨y, h1, h2⟩ := paired_mem t e
      exact ⟨y, List.mem_cons_of_mem _ h1, h2⟩
theorem paired_of {α β : Type} {F : α → β → Prop} : ∀ {l₁ : List α} {l₂ : List β}, l₁.length = l₂.length → (∀ (i : Nat) x y, l₁[i]? = some x → l₂[i]? = some y → F x y) → Paired F l₁ l₂
  | [], [], _, _ => .nil
  | [], _ :: _, h, _ => by simp at h
  | _ :: _, [], h, _ => by simp at h
  | a :: l₁, b :: l₂, h, f => .cons (f 0 a b rfl rfl) (paired_of (by simpa using h) fun i x y h1 h2 => f (i + 1) x y (by simpa using h1) (by simpa using h2))
theorem paired_set {α β : Type} {F : α → β → Prop} {x : α} {y : β} (r : F x y) : ∀ {l₁ : List α} {l₂ : List β} (i : Nat), Paired F l₁ l₂ → Paired F (l₁.set i x) (l₂.set i y)
  | _, _, _, .nil => .nil
  | _, _, 0, .cons _ t => .cons r t
  | _, _, i + 1, .cons q t => .cons q (paired_set r i t)
theorem paired_drop {α β : Type} {F : α → β → Prop} : ∀ {l₁ : List α} {l₂ : List β} (n : Nat), Paired F l₁ l₂ → Paired F (l₁.drop n) (l₂.drop n)
  | _, _, 0, r => r
  | _, _, _ + 1, .nil => .nil
  | _, _, n + 1, .cons _ t => paired_drop n t
theorem paired_dropLast {α β : Type} {F : α → β → Prop} : ∀ {l₁ : List α} {l₂ : List β}, Paired F l₁ l₂ → Paired F l₁.dropLast l₂.dropLast
  | _, _, .nil => .nil
  | _, _, .cons _ .nil => .nil
  | _, _, .cons r (.cons q t) => .cons r (paired_dropLast (.cons q t))
theorem paired_map {α β γ δ : Type} {F : γ → δ → Prop} {f : α → γ} {g : β → δ} {G : α → β → Prop} (h : ∀ a b, G a b → F (f a) (g b)) : ∀ {l₁ : List α} {l₂ : List β}, Paired G l₁ l₂ → Paired F (l₁.map f) (l₂.map g)
  | _, _, .nil => .nil
  | _, _, .cons r t => .cons (h _ _ r) (paired_map h t)

section
variable {K : Frag} {H H0 H1 H' : Hp} {a p r : Addr} {M : List (List Int)} {xs : List Int}
theorem LI.mono (e : Ex H H') (h : LI K H a xs) : LI K H' a xs := ex_l e h
theorem LLI.mono (e : Ex H H') (h : LLI K H a M) : LLI K H' a M := by
  obtain ⟨as, h1, h2⟩ := h
  exact ⟨as, ex_l e h1, paired_mono h2 fun _ _ q => q.mono e⟩
theorem OLI.li (h : OLI H0 H a xs) : LI K H a xs := sq_of h.2
theorem OLLI.lli (h : OLLI H0 H a M) : LLI K H a M := by
  obtain ⟨as, _, h1, _, h2⟩ := h
  exact ⟨as, sq_of h1, paired_mono h2 fun _ _ q => q.li⟩
theorem OLI.mono (e : Ex H H') (h : OLI H0 H a xs) : OLI H0 H' a xs := ⟨h.1, e _ _ h.2⟩
theorem OLLI.mono (e : Ex H H') (h : OLLI H0 H a M) : OLLI H0 H' a M := by
  obtain ⟨as, h0, h1, hn, h2⟩ := h
  exact ⟨as, h0, e _ _ h1, hn, paired_mono h2 fun _ _ q => q.mono e⟩
/-- fresh ahead of more is fresh ahead of less -/
theorem OLI.back (e : Ex H0 H1) (h : OLI H1 H a xs) : OLI H0 H a xs := ⟨fresh_back e h.1, h.2⟩
theorem OLLI.back (e : Ex H0 H1) (h : OLLI H1 H a M) : OLLI H0 H a M := by
  obtain ⟨as, h0, h1, hn, h2⟩ := h
  exact ⟨as, fresh_back e h0, h1, hn, paired_mono h2 fun _ _ q => q.back e⟩
theorem OLLI.fresh (h : OLLI H0 H a M) : H0 a = none := by
  obtain ⟨as, h0, _⟩ := h
  exact h0
theorem OLLI.nil (h0 : H0 a = none) (h : H a = some (.lst [])) : OLLI H0 H a [] := ⟨[], h0, h, by simp, .nil⟩
/-- a row made behind Hb goes to the end -/
theorem OLLI.push {Hb Hc : Hp} {row : List Int} (h : OLLI H0 Hb p M) (e0 : Ex H0 Hb) (e : Ex Hb Hc) (hr : Hb r = none) (hrow : Hc r = some (.lst (row.map V.int))) :
    ∃ vs : List V, Hc p = some (.lst vs) ∧ vs.length = M.length ∧ OLLI H0 (upd Hc p (.lst (vs ++ [.ref r]))) p (M ++ [row]) ∧ Ex H0 (upd Hc p (.lst (vs ++ [.ref r]))) := by
  obtain ⟨as, h0, h1, hn, h2⟩ := h
  have hpr : p ≠ r := ne_of_none h1 hr
  have hnr : r ∉ as := fun hm => by
    obtain ⟨y, _, q⟩ := paired_mem h2 hm
    have := q.2
    rw [hr] at this; cases this
  rw [List.nodup_cons] at hn
  refine ⟨as.map V.ref, e _ _ h1, by rw [List.length_map, h2.length], ⟨as ++ [r], h0, ?_, ?_, paired_append (paired_mem_mono h2 fun x y hx q => ⟨q.1, ?_⟩) (.cons ⟨fresh_back e0 hr, ?_⟩ .nil)⟩, Ex.mut (e0.trans e) h0⟩
  · rw [upd_same, List.map_append]; rfl
  · rw [List.nodup_cons]
    refine ⟨fun hm => ?_, ?_⟩
    · rcases List.mem_append.mp hm with hm | hm
      · exact hn.1 hm
      · exact hpr (by simpa using hm)
    · rw [List.nodup_append]
      exact ⟨hn.2, by simp, fun x hx y hy => by
        have : y = r := by simpa using hy
        subst this
        exact fun z => hnr (z ▸ hx)⟩
  · rw [upd_ne (fun z : x = p => hn.1 (z ▸ hx))]; exact e _ _ q.2
  · rw [upd_ne hpr.symm]; exact hrow
end

/-! ### forms: n boxes, f their numbers -/
def Fm (n : Nat) (f : Nat → Nat → Int) : List (List Int) := (List.range n).map fun i => (List.range n).map (f i)
theorem range_get {n i : Nat} (h : i < n) : (List.range n)[i]? = some i := by rw [List.getElem?_range h]
theorem mapr_get {α : Type} {n i : Nat} {f : Nat → α} (h : i < n) : ((List.range n).map f)[i]? = some (f i) := by rw [List.getElem?_map, range_get h]; rfl
theorem fm_get {n i : Nat} {f : Nat → Nat → Int} (h : i < n) : (Fm n f)[i]? = some ((List.range n).map (f i)) := mapr_get h
theorem fm_len {n : Nat} {f : Nat → Nat → Int} : (Fm n f).length = n := by unfold Fm; rw [List.length_map, List.length_range]
theorem mapr_ext {α : Type} {n : Nat} {f g : Nat → α} (h : ∀ i, i < n → f i = g i) : (List.range n).map f = (List.range n).map g := List.map_congr_left fun i hi => h i (List.mem_range.mp hi)
theorem fm_ext {n : Nat} {f g : Nat → Nat → Int} (h : ∀ i j, i < n → j < n → f i j = g i j) : Fm n f = Fm n g := mapr_ext fun i hi => mapr_ext fun j hj => h i j hi hj
theorem mapr_inj {α : Type} {n m : Nat} {f g : Nat → α} (h : (List.range n).map f = (List.range m).map g) : n = m ∧ ∀ i, i < n → f i = g i := by
  have e : n = m := by simpa using congrArg List.length h
  subst e
  refine ⟨rfl, fun i hi => ?_⟩
  have := congrArg (·[i]?) h
  simp only [mapr_get hi] at this
  exact Option.some.inj this
theorem fm_inj {n m : Nat} {f g : Nat → Nat → Int} (h : Fm n f = Fm m g) : n = m ∧ ∀ i j, i < n → j < n → f i j = g i j := by
  obtain ⟨e, q⟩ := mapr_inj h
  exact ⟨e, fun i j hi hj => (mapr_inj (q i hi)).2 j hj⟩

section
variable {K : Frag} {σ : St} {H H0 H1 H' : Hp} {ta tb te ti tj : TE} {a p r : Addr} {M : List (List Int)} {xs : List Int} {x y z v : V}
theorem LLI.row (h : LLI K H a M) {i : Nat} {row : List Int} (e : M[i]? = some row) : ∃ (as : List Addr) (x : Addr), SqL K H a (as.map V.ref) ∧ as.length = M.length ∧ as[i]? = some x ∧ LI K H x row := by
  obtain ⟨as, h1, h2⟩ := h
  obtain ⟨x, e1, q⟩ := paired_get h2 e
  exact ⟨as, x, h1, h2.length, e1, q⟩
theorem atI_n {α : Type} {xs : List α} {i : Nat} {v : α} (h : xs[i]? = some v) : atI xs (i : Int) = some v := by
  unfold atI
  rw [ixN_nat (List.getElem?_eq_some_iff.mp h).1]
  exact h
theorem LI.at {i : Nat} {v : Int} (h : LI K H a xs) (e : xs[i]? = some v) : RV (rIxL K) (.ref a) (.int (i : Int)) H (.int v) := rv_ixL h (atI_n (by rw [List.getElem?_map, e]; rfl))
theorem ev_item {i : Nat} {v : Int} (ha : Ev ta σ H (.ref a)) (hi : Ev ti σ H (.int (i : Int))) (h : LI K H a xs) (e : xs[i]? = some v) : Ev (tOp (rIxL K) ta ti) σ H (.int v) := ev_op ha hi (h.at e)
theorem ev_cell {i j : Nat} {row : List Int} {v : Int} (ha : Ev ta σ H (.ref a)) (hi : Ev ti σ H (.int (i : Int))) (hj : Ev tj σ H (.int (j : Int))) (h : LLI K H a M) (e1 : M[i]? = some row) (e2 : row[j]? = some v) :
    Ev (tOp (rIxL K) (tOp (rIxL K) ta ti) tj) σ H (.int v) := by
  obtain ⟨as, x, h1, _, h3, h4⟩ := h.row e1
  exact ev_op (ev_op ha hi (rv_ixL h1 (atI_n (by rw [List.getElem?_map, h3]; rfl)))) hj (h4.at e2)
theorem ev_fm {n i j : Nat} {f : Nat → Nat → Int} (ha : Ev ta σ H (.ref a)) (hi : Ev ti σ H (.int (i : Int))) (hj : Ev tj σ H (.int (j : Int))) (h : LLI K H a (Fm n f)) (e1 : i < n) (e2 : j < n) :
    Ev (tOp (rIxL K) (tOp (rIxL K) ta ti) tj) σ H (.int (f i j)) := ev_cell ha hi hj h (fm_get e1) (mapr_get e2)
theorem ev_mod {i j : Int} (ha : Ev ta σ H (.int i)) (hb : Ev tb σ H (.int j)) (hj : 0 < j) : Ev (tOp (rI (fun _ j => j ≠ 0) fun i j => .int (i.fmod j)) ta tb) σ H (.int (i % j)) :=
  ev_op ha hb (by rw [← Int.fmod_eq_emod_of_nonneg i (Int.le_of_lt hj)]; exact rv_I (by omega))
theorem ev_div {i j : Int} (ha : Ev ta σ H (.int i)) (hb : Ev tb σ H (.int j)) (hj : 0 < j) (h2 : j < 1073741824) : Ev (tOp (rI CDivN fun i j => .int (i.fdiv j)) ta tb) σ H (.int (i / j)) :=
  ev_op ha hb (by rw [← Int.fdiv_eq_ediv_of_nonneg i (Int.le_of_lt hj)]; exact rv_I ⟨by omega, by omega⟩)
theorem ev_len1 {vs : List V} {r : List V → Hp → VK → Prop} (ha : Ev ta σ H (.ref a)) (h : SqL K H a vs) (hr : r = fun xs H Q => ∃ p ys, xs = [.ref p] ∧ (SqL K H p ys ∨ SqT K H p ys) ∧ Q (.int ys.length) H) : Ev (tCB r (tCons ta tNil)) σ H (.int (vs.length : Int)) := by
  subst hr
  exact ev_len ha h
theorem ev_lenLLI (ha : Ev ta σ H (.ref a)) (h : LLI K H a M) : Ev (tCB (rLenS K) (tCons ta tNil)) σ H (.int (M.length : Int)) := by
  obtain ⟨as, h1, h2⟩ := h
  have e := ev_len ha h1
  rw [List.length_map, h2.length] at e
  exact e
theorem ev_lenFm {n : Nat} {f : Nat → Nat → Int} (ha : Ev ta σ H (.ref a)) (h : LLI K H a (Fm n f)) : Ev (tCB (rLenS K) (tCons ta tNil)) σ H (.int (n : Int)) := by
  have e := ev_lenLLI ha h
  rw [fm_len] at e
  exact e
theorem ev_lenLI (ha : Ev ta σ H (.ref a)) (h : LI K H a xs) : Ev (tCB (rLenS K) (tCons ta tNil)) σ H (.int (xs.length : Int)) := by
  have e := ev_len ha h
  rw [List.length_map] at e
  exact e
def rAbs : List V → Hp → VK → Prop := fun xs H Q => ∃ i, xs = [.int i] ∧ Q (.int (if i < 0 then -i else i)) H
theorem ev_abs {i : Int} (ha : Ev ta σ H (.int i)) : Ev (tCB rAbs (tCons ta tNil)) σ H (.int (if i < 0 then -i else i)) := fun H1 e Q q =>
  ha H1 e _ fun H2 e2 => ⟨i, rfl, q H2 e2⟩
/-- a call of a def whose promise is told by its value -/
theorem ev_cast {w : V} (h : Ev te σ H v) (e : v = w) : Ev te σ H w := e ▸ h
end

/-! ### what is new: relations of the heap ahead, the heap behind and the value -/
abbrev R3 := Hp → Hp → V → Prop
def Er (te : TE) (σ : St) (H : Hp) (R : R3) : Prop := ∀ H1, Ex H H1 → ∀ Q : VK, (∀ v H2, Ex H1 H2 → R H1 H2 v → Q v H2) → te σ H1 Q
/-- a new list of lists of ints -/
def RM (M : List (List Int)) : R3 := fun H1 H2 v => ∃ p, v = .ref p ∧ OLLI H1 H2 p M
def RL (xs : List Int) : R3 := fun H1 H2 v => ∃ p, v = .ref p ∧ OLI H1 H2 p xs
structure Mon (R : R3) : Prop where
  up : ∀ {H1 H2 H3 v}, Ex H2 H3 → R H1 H2 v → R H1 H3 v
  dn : ∀ {H0 H1 H2 v}, Ex H0 H1 → R H1 H2 v → R H0 H2 v
theorem mon_RM {M : List (List Int)} : Mon (RM M) := ⟨fun e ⟨p, h, q⟩ => ⟨p, h, q.mono e⟩, fun e ⟨p, h, q⟩ => ⟨p, h, q.back e⟩⟩
theorem mon_RL {xs : List Int} : Mon (RL xs) := ⟨fun e ⟨p, h, q⟩ => ⟨p, h, q.mono e⟩, fun e ⟨p, h, q⟩ => ⟨p, h, q.back e⟩⟩
section
variable {K : Frag} {σ : St} {H H0 H1 H' : Hp} {ta tb te ti tj : TE} {t : TT} {a p r : Addr} {M : List (List Int)} {xs : List Int} {x y z v : V} {R : R3} {D : Ends}
theorem Er.mono (e : Ex H H') (h : Er te σ H R) : Er te σ H' R := fun H1 a Q q => h H1 (e.trans a) Q q
theorem er_of_evl (h : EvL te σ H (xs.map V.int)) : Er te σ H (RL xs) := fun H1 e Q q => h H1 e Q fun p H2 hp e2 h2 => q _ H2 e2 ⟨p, rfl, hp, h2⟩
theorem evl_of_er (h : Er te σ H (RL xs)) : EvL te σ H (xs.map V.int) := fun H1 e Q q => h H1 e Q fun v H2 e2 ⟨p, hv, h1, h2⟩ => by subst hv; exact q p H2 h1 e2 h2
theorem sr_asg {i : Nat} (h : Er te σ H R) (k : ∀ v H1, Ex H H1 → R H H1 v → D.nx (σ.set i (some v)) H1) : tAsg te (gName i) D σ H := h H (Ex.refl H) _ k
theorem qr_asg {i : Nat} {tz : TS} (h : Er te σ H R) (k : ∀ v H1, Ex H H1 → R H H1 v → tz D (σ.set i (some v)) H1) : tSeq (tAsg te (gName i)) tz D σ H := sr_asg (D := { D with nx := tz D }) h k
theorem sr_ret (h : Er te σ H R) (k : ∀ v H1, Ex H H1 → R H H1 v → D.rt v H1) : tRet te D σ H := h H (Ex.refl H) _ k
/-- a promise of a new thing -/
def SpR (sp : Sp) (vs : List V) (H : Hp) (R : R3) : Prop := ∀ H1, Ex H H1 → ∀ Q : VK, (∀ v H2, Ex H1 H2 → R H1 H2 v → Q v H2) → ∀ E : XK, sp vs H1 Q E
theorem er_call {sp : Sp} {dvs vs : List V} {E : XK} {ta : TA} (mR : Mon R) (h : EvA ta σ H vs) (hs : SpR sp (vs ++ dvs) H R) : Er (tCall sp dvs E ta) σ H R := fun H1 e Q q =>
  h H1 e _ fun H2 e2 => hs H2 (e.trans e2) Q (fun v H3 e3 r => q v H3 (e2.trans e3) (mR.dn e2 r)) E

/-! ### comprehensions whose items are new -/
/-- R is not touched by a change of what was there ahead -/
structure Mon' (R : R3) : Prop extends Mon R where
  chg : ∀ {H1 H2 v Dl o}, H1 Dl ≠ none → R H1 H2 v → R H1 (upd H2 Dl o) v
theorem ne_fresh {H1 : Hp} {p Dl : Addr} (hd : H1 Dl ≠ none) (hp : H1 p = none) : p ≠ Dl := fun z => hd (z ▸ hp)
theorem mon'_RL {xs : List Int} : Mon' (RL xs) := { mon_RL with
  chg := fun hd ⟨p, h, q⟩ => ⟨p, h, q.1, by rw [upd_ne (ne_fresh hd q.1)]; exact q.2⟩ }
theorem mon'_RM {M : List (List Int)} : Mon' (RM M) := { mon_RM with
  chg := fun hd ⟨p, h, as, h0, h1, hn2, h2⟩ => ⟨p, h, as, h0, by rw [upd_ne (ne_fresh hd h0)]; exact h1, hn2, paired_mono h2 fun x r q => ⟨q.1, by rw [upd_ne (ne_fresh hd q.1)]; exact q.2⟩⟩ }
/-- a value that is no heap's -/
def RV0 (u : V) : R3 := fun _ _ v => v = u
theorem mon'_RV0 {u : V} : Mon' (RV0 u) := ⟨⟨fun _ h => h, fun _ h => h⟩, fun _ h => h⟩
theorem er_of_ev (h : Ev te σ H v) : Er te σ H (RV0 v) := fun H1 e Q q => h H1 e Q fun H2 e2 => q v H2 e2 rfl
/-- a new tuple of such values -/
def RT (vs : List V) : R3 := fun H1 H2 v => ∃ p, v = .ref p ∧ H1 p = none ∧ H2 p = some (.tup vs)
theorem mon'_RT {vs : List V} : Mon' (RT vs) := ⟨⟨fun e ⟨p, h, h0, h1⟩ => ⟨p, h, h0, e _ _ h1⟩, fun e ⟨p, h, h0, h1⟩ => ⟨p, h, fresh_back e h0, h1⟩⟩, fun hd ⟨p, h, h0, h1⟩ => ⟨p, h, h0, by rw [upd_ne (ne_fresh hd h0)]; exact h1⟩⟩
theorem er_of_evu {vs : List V} (h : EvU te σ H vs) : Er te σ H (RT vs) := fun H1 e Q q => h H1 e Q fun p H2 hp e2 h2 => q _ H2 e2 ⟨p, rfl, hp, h2⟩

/-- what is made so far: vs, each as R says of its turn -/
def Cr (H : Hp) (f : Nat → Bool) (R : Nat → R3) (Dl : Addr) (i : Nat) (H' : Hp) : Prop := H Dl = none ∧ Ex H H' ∧ ∃ vs : List V, H' Dl = some (.lst vs) ∧ Paired (fun v j => ∃ H3, Ex H H3 ∧ H3 Dl ≠ none ∧ R j H3 H' v) vs ((List.range i).filter f)
/-- a new list whose items are as R says, one for each of idx -/
def RLs (idx : List Nat) (R : Nat → R3) : R3 := fun H1 H2 v => ∃ p vs, v = .ref p ∧ H1 p = none ∧ H2 p = some (.lst vs) ∧ Paired (fun v j => R j H1 H2 v) vs idx
theorem filt_len (f : Nat → Bool) (i : Nat) : ((List.range i).filter f).length ≤ i := by
  have h := List.length_filter_le f (List.range i)
  rw [List.length_range] at h
  exact h
theorem filt_yes {f : Nat → Bool} {i : Nat} (h : f i = true) : (List.range (i + 1)).filter f = (List.range i).filter f ++ [i] := by
  rw [List.range_succ, List.filter_append, List.filter_cons, if_pos h]; rfl
theorem filt_no {f : Nat → Bool} {i : Nat} (h : f i = false) : (List.range (i + 1)).filter f = (List.range i).filter f := by
  rw [List.range_succ, List.filter_append, List.filter_cons, if_neg (by rw [h]; decide)]
  exact List.append_nil _
theorem filt_all (i : Nat) : (List.range i).filter (fun _ => true) = List.range i := by rw [List.filter_eq_self]; intros; rfl
theorem cr_turn {H H' : Hp} {f : Nat → Bool} {R : Nat → R3} {Dl : Addr} {i : Nat} {σ2 : L2.St} (mR : ∀ j, Mon' (R j)) (p : Cr H f R Dl i H') (hi : i < 50000) (ht : EvT t σ2 H (f i)) (he : f i = true → Er te σ2 H (R i)) :
    t σ2 H' fun b H3 => if b = true then te σ2 H3 fun y H4 => ∃ acc, H4 Dl = some (.lst acc) ∧ acc.length < sizeLine ∧ Cr H f R Dl (i + 1) (upd H4 Dl (.lst (acc ++ [y]))) else Cr H f R Dl (i + 1) H3 := by
  obtain ⟨p1, p2, vs, p3, p4⟩ := p
  refine ht H' p2 _ fun H3 e3 => ?_
  cases hf : f i with
  | true =>
    show te σ2 H3 fun y H4 => ∃ acc, H4 Dl = some (.lst acc) ∧ acc.length < sizeLine ∧ Cr H f R Dl (i + 1) (upd H4 Dl (.lst (acc ++ [y])))
    refine he hf H3 (p2.trans e3) _ fun v H4 e4 r => ⟨vs, e4 Dl _ (e3 Dl _ p3), sz_lt (by have := filt_len f i; rw [← p4.length] at this; omega), p1, Ex.mut ((p2.trans e3).trans e4) p1, vs ++ [v], upd_same, ?_⟩
    rw [filt_yes hf]
    have nd : H3 Dl ≠ none := by rw [e3 Dl _ p3]; exact fun z => nomatch z
    exact paired_append (paired_mono p4 fun v j ⟨Hz, z1, z2, z3⟩ => ⟨Hz, z1, z2, (mR j).chg z2 ((mR j).up (e3.trans e4) z3)⟩) (.cons ⟨H3, p2.trans e3, nd, (mR i).chg nd r⟩ .nil)
  | false =>
    show Cr H f R Dl (i + 1) H3
    refine ⟨p1, p2.trans e3, vs, e3 Dl _ p3, ?_⟩
    rw [filt_no hf]
    exact paired_mono p4 fun v j ⟨Hz, z1, z2, z3⟩ => ⟨Hz, z1, z2, (mR j).up e3 z3⟩
theorem cr_end {H1 H' : Hp} {f : Nat → Bool} {R : Nat → R3} {Dl : Addr} {n : Nat} (mR : ∀ j, Mon' (R j)) (e1 : Ex H H1) (p : Cr H1 f R Dl n H') : Ex H H' ∧ RLs ((List.range n).filter f) R H H' (.ref Dl) := by
  obtain ⟨p1, p2, vs, p3, p4⟩ := p
  exact ⟨e1.trans p2, Dl, vs, rfl, fresh_back e1 p1, p3, paired_mono p4 fun v j ⟨Hz, z1, z2, z3⟩ => (mR j).dn (e1.trans z1) z3⟩
/-- [te for j in range(n) if t] -/
theorem er_lcR {ta : TA} {j : Nat} {vs : List Nat} {n : Int} (f : Nat → Bool) (R : Nat → R3) (mR : ∀ j, Mon' (R j)) (h : EvA ta σ H [.int n]) (hn : 0 ≤ n ∧ n ≤ 40000) (hw : ∀ x, wipe ((wipe σ vs).set j (some x)) vs = wipe σ vs)
    (ht : ∀ (i : Nat) H1, Ex H H1 → (i : Int) < n → EvT t ((wipe σ vs).set j (some (.int (i : Int)))) H1 (f i)) (he : ∀ (i : Nat) H1, Ex H H1 → (i : Int) < n → f i = true → Er te ((wipe σ vs).set j (some (.int (i : Int)))) H1 (R i)) :
    Er (tLc (iRng1 ta) (gName j) t te vs) σ H (RLs ((List.range n.toNat).filter f) R) := fun H0 e Q q => h H0 e _ fun H1 e1 => ⟨n, rfl, by omega, by omega, fun Dl hD =>
  lc_range (lo := 0) (n := n.toNat) (Cr H1 f R Dl) ⟨hD, Ex.new hD, [], upd_same, .nil⟩ (fun i H' hi p => by
    have e0 : (0 : Int) + (i : Int) = (i : Int) := Int.zero_add _
    rw [e0]
    exact ⟨hw _, cr_turn mR p (by omega) (ht i H1 (e.trans e1) (by omega)) (fun hf => he i H1 (e.trans e1) (by omega) hf)⟩) (fun H' p => by
    obtain ⟨q1, q2⟩ := cr_end mR e1 p
    exact q _ H' q1 q2)⟩
/-- over a list that stands -/
theorem er_lcL {a : Addr} {xs : List V} {tl : TE} {j : Nat} {vs : List Nat} (f : Nat → Bool) (R : Nat → R3) (mR : ∀ j, Mon' (R j)) (h : Ev tl σ H (.ref a)) (hx : SqL K H a xs) (hz : xs.length ≤ 40000) (hw : ∀ x, wipe ((wipe σ vs).set j (some x)) vs = wipe σ vs)
    (ht : ∀ (i : Nat) (x : V) H1, Ex H H1 → xs[i]? = some x → EvT t ((wipe σ vs).set j (some x)) H1 (f i)) (he : ∀ (i : Nat) (x : V) H1, Ex H H1 → xs[i]? = some x → f i = true → Er te ((wipe σ vs).set j (some x)) H1 (R i)) :
    Er (tLc (iList K tl) (gName j) t te vs) σ H (RLs ((List.range xs.length).filter f) R) := fun H0 e Q q => h H0 e _ fun H1 e1 => ⟨a, rfl, ⟨xs, ex_l (e.trans e1) hx⟩, fun Dl hD =>
  lc_list (xs := xs) (Cr H1 f R Dl) ⟨hD, Ex.new hD, [], upd_same, .nil⟩ (fun i H' _ p => ex_l ((e.trans e1).trans p.2.1) hx) (fun i x H' hi p => ⟨hw x, cr_turn mR p (by have := (List.getElem?_eq_some_iff.mp hi).1; omega) (ht i x H1 (e.trans e1) hi) (fun hf => he i x H1 (e.trans e1) hi hf)⟩)
    (fun H' p => by
      obtain ⟨q1, q2⟩ := cr_end mR e1 p
      exact q _ H' q1 q2)⟩
/-- over a list that the reading makes -/
theorem er_lcN {R0 : R3} {tl : TE} {j n : Nat} {vs : List Nat} (f : Nat → Bool) (R : Nat → R3) (mR : ∀ j, Mon' (R j)) (h : Er tl σ H R0) (hz : n ≤ 40000) (hw : ∀ x, wipe ((wipe σ vs).set j (some x)) vs = wipe σ vs)
    (hs : ∀ H1 H2 v, Ex H H1 → Ex H1 H2 → R0 H1 H2 v → ∃ a xs, v = .ref a ∧ SqL K H2 a xs ∧ xs.length = n ∧ ∀ (i : Nat) x H3, xs[i]? = some x → Ex H2 H3 → EvT t ((wipe σ vs).set j (some x)) H3 (f i) ∧ (f i = true → Er te ((wipe σ vs).set j (some x)) H3 (R i))) :
    Er (tLc (iList K tl) (gName j) t te vs) σ H (RLs ((List.range n).filter f) R) := fun H0 e Q q => h H0 e _ fun v H1 e1 r => by
  obtain ⟨a, xs, ev, hx, hn, hi⟩ := hs H0 H1 v e e1 r
  subst ev
  subst hn
  exact ⟨a, rfl, ⟨xs, hx⟩, fun Dl hD =>
    lc_list (xs := xs) (Cr H1 f R Dl) ⟨hD, Ex.new hD, [], upd_same, .nil⟩ (fun i H' _ p => ex_l p.2.1 hx) (fun i x H' hj p => ⟨hw x, cr_turn mR p (by have := (List.getElem?_eq_some_iff.mp hj).1; omega) ((hi i x H1 hj (Ex.refl _)).1) (fun hf => (hi i x H1 hj (Ex.refl _)).2 hf)⟩)
      (fun H' p => by
        obtain ⟨q1, q2⟩ := cr_end mR e1 p
        exact q _ H' q1 q2)⟩

/-! ### a list of new rows -/
def Cm (H : Hp) (g : Nat → List Int) (Dl : Addr) (i : Nat) (H' : Hp) : Prop := Ex H H' ∧ OLLI H H' Dl ((List.range i).map g)
theorem cm_turn {H H' : Hp} {g : Nat → List Int} {Dl : Addr} {i : Nat} {σ2 : L2.St} (p : Cm H g Dl i H') (hi : i < 50000) (he : Er te σ2 H (RL (g i))) :
    tYes σ2 H' fun b H3 => if b = true then te σ2 H3 fun y H4 => ∃ acc, H4 Dl = some (.lst acc) ∧ acc.length < sizeLine ∧ Cm H g Dl (i + 1) (upd H4 Dl (.lst (acc ++ [y]))) else Cm H g Dl (i + 1) H3 := by
  obtain ⟨p1, p2⟩ := p
  show te σ2 H' fun y H4 => ∃ acc, H4 Dl = some (.lst acc) ∧ acc.length < sizeLine ∧ Cm H g Dl (i + 1) (upd H4 Dl (.lst (acc ++ [y])))
  refine he H' p1 _ fun v H4 e4 ⟨r, hv, hr1, hr2⟩ => ?_
  subst hv
  obtain ⟨vs, h1, h2, h3, h4⟩ := p2.push p1 e4 hr1 hr2
  refine ⟨vs, h1, sz_lt (by rw [h2, List.length_map, List.length_range]; omega), h4, ?_⟩
  rw [List.range_succ, List.map_append]
  exact h3
theorem em_lcR {ta : TA} {j : Nat} {vs : List Nat} {n : Int} (g : Nat → List Int) (h : EvA ta σ H [.int n]) (hn : 0 ≤ n ∧ n ≤ 40000) (hw : ∀ x, wipe ((wipe σ vs).set j (some x)) vs = wipe σ vs)
    (he : ∀ (i : Nat) H1, Ex H H1 → (i : Int) < n → Er te ((wipe σ vs).set j (some (.int (i : Int)))) H1 (RL (g i))) :
    Er (tLc (iRng1 ta) (gName j) tYes te vs) σ H (RM ((List.range n.toNat).map g)) := fun H0 e Q q => h H0 e _ fun H1 e1 => ⟨n, rfl, by omega, by omega, fun Dl hD =>
  lc_range (lo := 0) (n := n.toNat) (Cm H1 g Dl) ⟨Ex.new hD, .nil hD upd_same⟩ (fun i H' hi p => by
    have e0 : (0 : Int) + (i : Int) = (i : Int) := Int.zero_add _
    rw [e0]
    exact ⟨hw _, cm_turn p (by omega) (he i H1 (e.trans e1) (by omega))⟩) (fun H' p => q _ H' (e1.trans p.1) ⟨Dl, rfl, p.2.back e1⟩)⟩
theorem em_lcL {a : Addr} {xs : List V} {tl : TE} {j : Nat} {vs : List Nat} (g : Nat → List Int) (h : Ev tl σ H (.ref a)) (hx : SqL K H a xs) (hz : xs.length ≤ 40000) (hw : ∀ x, wipe ((wipe σ vs).set j (some x)) vs = wipe σ vs)
    (he : ∀ (i : Nat) (x : V) H1, Ex H H1 → xs[i]? = some x → Er te ((wipe σ vs).set j (some x)) H1 (RL (g i))) :
    Er (tLc (iList K tl) (gName j) tYes te vs) σ H (RM ((List.range xs.length).map g)) := fun H0 e Q q => h H0 e _ fun H1 e1 => ⟨a, rfl, ⟨xs, ex_l (e.trans e1) hx⟩, fun Dl hD =>
  lc_list (xs := xs) (Cm H1 g Dl) ⟨Ex.new hD, .nil hD upd_same⟩ (fun i H' _ p => ex_l ((e.trans e1).trans p.1) hx) (fun i x H' hi p => ⟨hw x, cm_turn p (by have := (List.getElem?_eq_some_iff.mp hi).1; omega) (he i x H1 (e.trans e1) hi)⟩)
    (fun H' p => q _ H' (e1.trans p.1) ⟨Dl, rfl, p.2.back e1⟩)⟩
end
end AT

/-! ## the rules with the written part named -/
namespace AT
open PySem PySem.Spec PyProof.Rows L2 Evl
section
variable {X : Cx} {tg : Expr}
theorem lenK (K : Frag) (h : X.K = K := by rfl) : CallR X (.builtin "len") (rLenS K) := by subst h; exact call_len_seq
theorem listK (K : Frag) (h : X.K = K := by rfl) : CallR X (.type "list") (rListS K) := by subst h; exact call_list_of
def rTupS (K : Frag) : List V → Hp → VK → Prop := fun xs H Q => ∃ p ys, xs = [.ref p] ∧ ((SqL K H p ys ∧ ∀ l, H l = none → Q (.ref l) (upd H l (.tup ys))) ∨ (SqT K H p ys ∧ Q (.ref p) H))
theorem tupK (K : Frag) (h : X.K = K := by rfl) : CallR X (.type "tuple") (rTupS K) := by subst h; exact call_tuple_of
theorem absK : CallR X (.builtin "abs") rAbs := call_abs
theorem isiK (K : Frag) (h : X.K = K := by rfl) : CallR X (.builtin "isinstance") (rIsi K) := by subst h; exact call_isi
theorem ixL (K : Frag) (h : X.K = K := by rfl) : IxR X (rIxL K) := by subst h; exact ix_list
theorem ixT (K : Frag) (h : X.K = K := by rfl) : IxR X (rIxT K) := by subst h; exact ix_tup
theorem slL (K : Frag) (h : X.K = K := by rfl) : SlR X (rSlL K) := by subst h; exact sl_list
theorem inK (K : Frag) (h : X.K = K := by rfl) : OpR X (compareOp .In) (rIn K false) := by subst h; exact op_in_seq
theorem ninK (K : Frag) (h : X.K = K := by rfl) : OpR X (compareOp .NotIn) (rIn K true) := by subst h; exact op_notIn_seq
theorem eqDK (K : Frag) (hu : X.A.units + 64 < cLine) (h : X.K = K := by rfl) : OpR X (compareOp .Eq) (rEqD K) := by subst h; exact op_eqD hu
theorem neDK (K : Frag) (hu : X.A.units + 64 < cLine) (h : X.K = K := by rfl) : OpR X (compareOp .NotEq) (rNeD K) := by subst h; exact op_neD hu
theorem sumK (K : Frag) (hc : X.calm = true) (h : X.K = K := by rfl) : CallR X (.builtin "sum") (rSum K) := by subst h; exact cr_sum hc
theorem maxK (K : Frag) (hc : X.calm = true) (h : X.K = K := by rfl) : CallR X (.builtin "max") (rMax K) := by subst h; exact cr_max hc
theorem minK (K : Frag) (hc : X.calm = true) (h : X.K = K := by rfl) : CallR X (.builtin "min") (rMin K) := by subst h; exact cr_min hc
theorem allK (K : Frag) (hc : X.calm = true) (h : X.K = K := by rfl) : CallR X (.builtin "all") (rAll K) := by subst h; exact cr_all hc
theorem sortedK (K : Frag) (h : X.K = K := by rfl) : CallR X (.builtin "sorted") (rSorted K) := by subst h; exact cr_sorted
theorem pi_listK (K : Frag) {l : Expr} {tl : TE} (hl : PE X l tl) (h : X.K = K := by rfl) : PI X tg l (iList K tl) := by subst h; exact pi_list hl
theorem pi_tupK (K : Frag) {l : Expr} {tl : TE} (hl : PE X l tl) (h : X.K = K := by rfl) : PI X tg l (iTup K tl) := by subst h; exact pi_tup hl
theorem mt_indexK (K : Frag) (h : X.K = K := by rfl) : MtR X "list.index" (rIndex K) := by subst h; exact mt_index
theorem pi_zipK (K : Frag) {e e2 : Expr} {ta : TA} {p pos tpos : Pos} {elts : List Expr} {kk : Nat} (hg : Gl X "zip") (hm : X.mg "zip" = none) (ha : PA X [e, e2] ta) (h : X.K = K := by rfl)
    (hs : starEach [e, e2] X.env = (false, eval e X.env) :: starEach [e2] X.env := by rfl) (hpl : (backTo pos (starEach [e2] X.env)).any (·.1) = false := by rfl) :
    PI X (.Tuple elts kk tpos) (.Call (.Name "zip" p) [e, e2] [] pos) (iZip K ta) := by subst h; exact pi_zip hg hm ha hs hpl
theorem pg_tupK (K : Frag) {es : List Expr} {k : Nat} {t : TGs} {n : Nat} {pos : Pos} (hc : X.calm = true) (hp : PGs X es t) (h : X.K = K := by rfl)
    (hn : (assignEach es X.env).length = n := by rfl) (hst : (assignEach es X.env).findIdx? (·.1) = none := by rfl) : PG X (.Tuple es k pos) (gTup K n t) := by subst h; exact pg_tup hc hp hn hst
section
variable {o e : Expr} {es : List Expr} {to : TE} {t : TA} {name : Str} {apos cpos : Pos} {T id : String} {r : V → List V → Hp → VK → Prop}
theorem bm0K (K : Frag) (pa : PlainAttrs T) (slot : Slot T name id) (hty : typeOf (.builtin id) = pure (.type "method_descriptor")) (hm : MtR X id r) (ho : PE X o to) (h : X.K = K := by rfl)
    (hbase : attributeBase o name X.env (eval o X.env) = eval o X.env := by rfl) (hline : (apos.endLine == cpos.line) = true := by rfl) : PE X (.Call (.Attribute o name apos) [] [] cpos) (tBM0 K T r to) := by subst h; exact pe_bm0 pa slot hty hm ho hbase hline
theorem bmK (K : Frag) (pa : PlainAttrs T) (slot : Slot T name id) (hty : typeOf (.builtin id) = pure (.type "method_descriptor")) (hm : MtR X id r) (ho : PE X o to) (ha : PA X (e :: es) t) (h : X.K = K := by rfl)
    (hbase : attributeBase o name X.env (eval o X.env) = eval o X.env := by rfl)
    (hfew : ((backTo cpos (starEach (e :: es) X.env)).all (fun x => !x.1) && (backToKw cpos (keywordEach [] X.env)).all (fun x => x.1.isSome)
      && decide ((e :: es).length + ([] : List Keyword).length + (if ([] : List Keyword).isEmpty then 0 else 1) < 30)) = true := by rfl)
    (hline : (apos.endLine == cpos.line) = true := by rfl) (hs : starEach (e :: es) X.env = (false, eval e X.env) :: starEach es X.env := by rfl) (hplain : (backTo cpos (starEach es X.env)).any (·.1) = false := by rfl) :
    PE X (.Call (.Attribute o name apos) (e :: es) [] cpos) (tBM K T r to t) := by subst h; exact pe_bm pa slot hty hm ho ha hbase hfew hline hs hplain
end
end
end AT

/-! ## own exception classes, raised, caught, looked at in a def that the suite calls -/
namespace AT
open PySem PySem.Spec PyProof.Rows L2 Evl L2H
/-- what the top has left of an own exception class without text of its own -/
structure ExcF (K : Frag) (mg : Str → Option Value) (x : Str) (C : Addr) : Prop where
  g : mg x = some (.ref C)
  xn : PySem.W.excIn K C [.type "ValueError", .type "Exception", .type "BaseException", .type "object"] "ValueError.__new__" = true
  kp : PySem.W.keepIn K (.ref C) = true
  bs : PySem.W.subIn K (.ref C) (.type "BaseException") = some true
  ty : PySem.W.typeIn K (.ref C) = some (.type "type")
  ic : PySem.W.isClsIn K C = true
  hg : PySem.W.findIn K (.ref C) "__getattribute__" = some (some (.builtin "BaseException.__getattribute__"))
  hk : PySem.W.findIn K (.ref C) "__getattr__" = some none
  hd : PySem.W.hasDictIn K C = true
  ha : PySem.W.findIn K (.ref C) "__class__" = some (some (.builtin "object.__class__"))
  hn : PySem.W.specialIn K (.builtin "object.__class__") "__get__" = some (some (.builtin "getset_descriptor.__get__"))
  ht : PySem.W.takesIn K (.builtin "object.__class__") = some true
  hm : PySem.W.mroIn K C (.type "object") = some true
  vs : PySem.W.subIn K (.ref C) (.type "ValueError") = some true
section
variable {K : Frag} {mg : Str → Option Value} {x : Str} {C D : Addr}
theorem ExcF.excC (F : ExcF K mg x C) : ExcC K C := ⟨F.hg, F.hk, F.bs, F.hd, F.ha, F.hn, F.ht, F.hm⟩
theorem ExcF.cls (F : ExcF K mg x C) : ((PySem.W.clsIn K C).isSome && PySem.W.typeIn K (.ref C) == some (.type "type")) = true := by
  have h2 : (PySem.W.clsIn K C).isSome = true := F.ic
  rw [h2, F.ty] <;> rfl
theorem ExcF.exm (F : ExcF K mg x C) {cls : Value} {b : Bool} (h : PySem.W.subIn K cls (.ref C) = some b) : PySem.W.exmOne K cls (.ref C) = some b := by
  have e1 : (PySem.W.subIn K (.ref C) (.type "BaseException") == some true) = true := by rw [F.bs] <;> rfl
  show (if (PySem.W.subIn K (.ref C) (.type "BaseException") == some true) = true then (if ((PySem.W.clsIn K C).isSome && PySem.W.typeIn K (.ref C) == some (.type "type")) = true then PySem.W.subIn K cls (.ref C) else none) else none) = some b
  rw [if_pos e1, if_pos F.cls]
  exact h
theorem ExcF.kit (F : ExcF K mg x C) {b : Bool} (h : PySem.W.subIn K (.ref D) (.ref C) = some b) (hd : D = C → b = true) : PySem.W.kitOne K (.ref D) (.ref C) = some b := by
  unfold PySem.W.kitOne
  by_cases e : D = C
  · subst e
    rw [if_pos (by simp), hd rfl]
  · rw [if_neg (by simp [e])]
    show (if ((PySem.W.clsIn K C).isSome && PySem.W.typeIn K (.ref C) == some (.type "type")) = true then PySem.W.subIn K (.ref D) (.ref C) else none) = some b
    rw [if_pos F.cls]
    exact h
theorem ExcF.kitV (F : ExcF K mg x C) : PySem.W.kitOne K (.ref C) (.type "ValueError") = some true := by
  unfold PySem.W.kitOne
  rw [if_neg (by simp)]
  show (if PySem.W.kitMeta "ValueError" = true then PySem.W.subIn K (.ref C) (.type "ValueError") else none) = some true
  rw [if_pos (by decide +kernel)]
  exact F.vs
end

/-! ### a def that is called with the exception at hand -/
structure FnE (P : Program) (w : World) (K : Frag) (mg : Str → Option Value) (base : Heap) (k : Nat) (f : Addr) (fd : FuncData) (ps : List Str) (sp : Addr → Value → Option Addr → Sp) : Prop where
  len : ∀ a c d vs H Q E, sp a c d vs H Q E → vs.length = ps.length
  run : ∀ (A : Around) (outer : List Env) (s : Shared) (H : Hp) (args : Args) (us : List Value) (vs : List V) (Q : VK) (E : XK) (p : Addr × Obj) (c : Value) (d : Option Addr), Zc c d p.2 → (∃ fv, p.2.data = .fields fv) → RoomH k A → PinOk outer H s p → Env0 P w K mg base A outer s H → BindsTo s fd args (ps.zip us) → Vals vs us → sp p.1 c d vs H Q E →
    codeAny (model P w) A (.call (.ref f) args) (CR CX0 outer P w H s Q E) s
theorem fn_ofE {P : Program} {w : World} {K : Frag} {mg : Str → Option Value} {base : Heap} {k : Nat} {f : Addr} {name qual : Str} {params : Arguments} {body : List Stmt} {scope : Scope} {dV kV doc pm cdv ct oc : Value} {an od : Option Addr}
    {osl : Array (Option Value)} {N ps : List Str} {sp : Addr → Value → Option Addr → Sp} (lk : K.lookup f = some ⟨oc, od, .func (PySem.W.fnOf name qual params body scope dV kV doc pm an cdv ct), osl⟩) (hcd : PySem.W.codeIn K cdv qual = true) (S : FnScope N ps scope)
    (len : ∀ a c d vs H Q E, sp a c d vs H Q E → vs.length = ps.length)
    (hbody : ∀ (A : Around) (outer : List Env) (s : Shared) (H : Hp) (vs : List V) (Q : VK) (E : XK) (p : Addr × Obj) (c : Value) (d : Option Addr), Zc c d p.2 → (∃ fv, p.2.data = .fields fv) → RoomH k (A.deeper (envOfC qual scope s.heap.objs.size f cdv)) → sp p.1 c d vs H Q E →
      ∃ t, PSs (cxH CX0 P w K mg base N qual scope f cdv A outer s H E p) body t ∧ t { nx := fun _ H' => Q .non H', rt := Q } (L2.start N vs) H) :
    FnE P w K mg base (k + 1) f (PySem.W.fnOf name qual params body scope dV kV doc pm an cdv ct) ps sp := by
  refine ⟨len, fun A outer s H args us vs Q E p c d hz hf hr hpin e0 hb r hsp => ?_⟩
  have hl := len _ _ _ _ _ _ _ hsp
  have KX : K.In s.heap := e0.mod.kin.keeps fun b o e => (e0.bs b o e).1
  have lim : s.heap.NoLimit := e0.mod.nolimit.keeps fun b o e => (e0.bs b o e).1
  have hkind : ∀ y ∈ ps.zip us, scope.names.lookup y.1 = some .local ∨ (scope.names.lookup y.1 = some .cell ∧ ((cellsFrom (s.heap.objs.size + 1) scope.names []).lookup y.1).isSome = true) := fun ⟨n, v⟩ hy => by
    rcases S.par n (List.of_mem_zip hy).1 with q | q
    · exact .inl q
    · exact .inr ⟨q, PySem.W.cellsFrom_some _ _ _ (.inl q)⟩
  refine codeAny_call_function hr.depth (KX _ _ lk) rfl S.co S.gen rfl (PySem.W.codeRec_of KX hcd) (hb _ _ _ _ ?_)
  refine wpAny_newFunctionEnv_cells S.kind hkind fun env he s1 x => ?_
  subst he
  refine ⟨lim.keeps x.toInCall.keep, codeAny_func ?_⟩
  obtain ⟨t, ht, hq⟩ := hbody A outer s H vs Q E p c d hz hf (hr.deeper _) hsp
  have I : Inv (cxH CX0 P w K mg base N qual scope f cdv A outer s H E p) [] (L2.start N vs) H s1 := inv_startH S hpin e0 hl r x
  refine wpAny_mono (ht.run [] s1 (L2.start N vs) H _ I hq) (fun fl s' hs => ?_) fun e s' hs => hs
  have fin : ∀ {σ' : L2.St} {H' : Hp} {v : V} {u : Value}, Inv (cxH CX0 P w K mg base N qual scope f cdv A outer s H E p) [] σ' H' s' → RelV v u → Q v H' → CE outer P w H s Q u s' :=
    fun {σ' H' v u} J rv q => ⟨v, H', J.os, J.bare, J.base, J.hok, rv, q⟩
  cases fl with
  | ret u =>
    obtain ⟨v, σ', H', J, rv, q⟩ := hs
    exact fin J rv q
  | next =>
    obtain ⟨σ', H', J, q⟩ := hs
    exact fin (v := V.non) (u := Value.none) J rfl q
  | brk =>
    obtain ⟨_, _, _, q⟩ := hs
    exact False.elim q
  | cont =>
    obtain ⟨_, _, _, q⟩ := hs
    exact False.elim q
theorem Fun.okE {P : Program} {w : World} {K : Frag} {mg : Str → Option Value} {base : Heap} {x qual : Str} {st : Stmt} {f : Addr} {fd : FuncData} {N ps : List Str} {k : Nat} {sp : Addr → Value → Option Addr → Sp} (F : Fun K x qual st f fd) (S : FnScope N ps (defScope st)) (len : ∀ a c d vs H Q E, sp a c d vs H Q E → vs.length = ps.length)
    (hbody : ∀ (cdv : Value) (A : Around) (outer : List Env) (s : Shared) (H : Hp) (vs : List V) (Q : VK) (E : XK) (p : Addr × Obj) (c : Value) (d : Option Addr), Zc c d p.2 → (∃ fv, p.2.data = .fields fv) → RoomH k (A.deeper (envOfC qual (defScope st) s.heap.objs.size f cdv)) → sp p.1 c d vs H Q E →
      ∃ t, PSs (cxH CX0 P w K mg base N qual (defScope st) f cdv A outer s H E p).nox (defBody st) t ∧ t { nx := fun _ H' => Q .non H', rt := Q } (L2.start N vs) H) : FnE P w K mg base (k + 1) f fd ps sp := by
  obtain ⟨oc, od, kV, doc, pm, an, cdv, ct, osl, rfl, lk, hcd⟩ := F.ex
  refine fn_ofE lk hcd S len fun A outer s H vs Q E p c d hz hf hr hsp => ?_
  obtain ⟨t, h, q⟩ := hbody cdv A outer s H vs Q E p c d hz hf hr hsp
  exact ⟨t, h.nox, q⟩
section
variable {X : Cx} {k : Nat} {f : Addr} {fd : FuncData} {ps : List Str} {sp : Addr → Value → Option Addr → Sp} {x : Str} {q pos : Pos} {e : Expr} {es : List Expr} {t : TA}
/-- f(e), e the exception that the suite holds -/
def tCallE (sp : Sp) (t : TA) : TE := fun σ H Q => t σ H fun vs H1 => sp vs H1 Q E0
theorem pe_callE {a : Addr} {oe : Obj} {c : Value} {d : Option Addr} (hz : Zc c d oe) (hf : ∃ fv, oe.data = .fields fv) (F : FnE X.prog X.w X.K X.mg X.base k f fd ps sp) (hr : RoomH k X.A) (hp : (a, oe) ∈ X.pn) (hg : Gl X x) (hm : X.mg x = some (.ref f)) (hk : PySem.W.keepIn X.K (.ref f) = true) (hb : Binds X.K fd ps [])
    (ha : PA X (e :: es) t) (hdb : (x == ("__debug__" : Str)) = false := by decide) (he : starEach (e :: es) X.env = (false, eval e X.env) :: starEach es X.env := by rfl) (hpl : (backTo pos (starEach es X.env)).any (·.1) = false := by rfl) :
    PE X (.Call (.Name x q) (e :: es) [] pos) (tCallE (sp a c d) t) := by
  refine ⟨fun pins s σ H Q I h => ?_⟩
  refine wpAny_Call_Name_kw (ld_glob I hg hm ?_ hdb)
  refine PySem.W.callWith_K (h₀ := X.base) I.ok.mod.kin hk (thn (ha.run pos pins s σ H _ I h) fun us s1 ⟨vs, H1, I1, r, q⟩ => ⟨I1.kIn, ?_⟩) he hpl
  have hl : us.length = ps.length := by rw [← r.length]; exact F.len _ _ _ _ _ _ _ q
  have b := hb s1 us I1.kIn (by rw [List.append_nil]; exact hl)
  rw [List.append_nil] at b
  have P1 := I1.pin (a, oe) (List.mem_append_left _ hp)
  have hpin : PinOk X.stack H1 s1 (a, oe) := ⟨P1.1, P1.2.1, fun hm => (List.mem_cons.mp (I1.stkSub a hm)).elim P1.2.2.1 P1.2.2.2.1, P1.2.2.2.2⟩
  refine wpAny_call (codeAny_mono (F.run X.A X.stack s1 H1 ⟨us, []⟩ us vs Q E0 (a, oe) c d hz hf hr hpin I1.env0 b r q) fun r s' hq => ?_)
  cases r with
  | error e => exact False.elim hq
  | ok fl =>
    cases fl with
    | ret u => exact I1.after hq
    | next => exact False.elim hq
    | brk => exact False.elim hq
    | cont => exact False.elim hq
/-- isinstance(e, C) there -/
theorem call_isP {a D : Addr} {oe : Obj} (K : Frag) (hp : (a, oe) ∈ X.pn) (C : ExcC K D) (hz : Zc (.ref D) none oe) (hf : ∃ vs, oe.data = .fields vs) (hK : X.K = K := by rfl) : CallR X (.builtin "isinstance") (rIsE K D a) := by
  subst hK
  intro pins s σ H xs us Q I r h
  obtain ⟨c, cv, b, rfl, hcv, e, q⟩ := h
  cases r with
  | cons rx rr =>
    cases rr with
    | cons rt rr =>
      cases rr
      cases rx
      have ec := hcv _ rt
      subst ec
      obtain ⟨hget, _⟩ := I.pin (a, oe) (List.mem_append.mpr (.inl hp))
      obtain ⟨vs, hv⟩ := hf
      have J : PySem.W.InstAt s.heap a oe D none := by
        obtain ⟨oc, od, oda, osl⟩ := oe
        obtain ⟨h1, h2⟩ := hz
        dsimp only at h1 h2 hv
        subst h1 h2 hv
        exact ⟨hget, rfl, rfl, trivial⟩
      exact PySem.W.kia_one (PySem.W.handS_kitx_exc C.hg C.hk C.hs C.hd C.ha C.hn C.ht C.hm) I.kIn J e (fun z => nomatch z) fun tk => ⟨.bl b, H, I.kept (t' := tk) fun _ _ z => z, rfl, q⟩
end

/-! ### list.count(True) of a list of truth values -/
def eqb (b : Bool) (v : Value) : Bool := v == .bool b
def rCntB (K : Frag) : V → List V → Hp → VK → Prop := fun x xs H Q => ∃ (p : Addr) (ns : List Bool) (k : Bool), x = .ref p ∧ xs = [.bl k] ∧ SqL K H p (ns.map V.bl) ∧ Q (.int (ns.count k : Nat)) H
theorem bools_of : ∀ {ns : List Bool} {us : List Value}, Vals (ns.map V.bl) us → us = ns.map Value.bool
  | [], _, .nil => rfl
  | n :: ns, _, .cons r t => by
    cases (show _ = Value.bool n from r)
    rw [bools_of t]; rfl
theorem bools_count (k : Bool) : ∀ ns : List Bool, (ns.map Value.bool).countP (eqb k) = ns.count k
  | [] => rfl
  | n :: ns => by
    rw [List.map_cons, List.countP_cons, List.count_cons, bools_count k ns]
    congr 1
    cases n <;> cases k <;> rfl
theorem mt_countB {X : Cx} (K : Frag) (hK : X.K = K := by rfl) : MtR X "list.count" (rCntB K) := by
  subst hK
  intro pins s σ H x xs v us Q I rx rxs h
  obtain ⟨p, ns, k, rfl, rfl, hs, q⟩ := h
  cases rx
  obtain ⟨u, rfl, ru⟩ := rxs.one
  cases (show u = Value.bool k from ru)
  obtain ⟨its, rv, ⟨⟨cls, dd, data, sl⟩, n, ho, hc, hdn, hd⟩, hlen⟩ := I.list hs
  simp only at hc hd
  subst hc hd
  have hi := bools_of rv
  subst hi
  refine call_meets PySem.F.slot_list_count ⟨_, ho, rfl⟩ PySem.F.entry_list_count (PySem.F.args_list_count_2 _ _)
    (SeqAt.list_countAt p (ns.map Value.bool).toArray n dd sl (.bool k) (eqb k)) ⟨ho, fun y hy => ?_, ?_⟩
  · obtain ⟨b, _, rfl⟩ := List.mem_map.mp (show y ∈ ns.map Value.bool by simpa using hy)
    have e := eqAt_V (A := X.A.in1) (s := s) (y := .bl b) (x := .bl k) (u := .bool b) (v := .bool k) rfl rfl rfl rfl
    have e2 : eqV (.bl b) (.bl k) = eqb k (.bool b) := by cases b <;> cases k <;> rfl
    rw [e2] at e
    exact e
  · have ec : (ns.map Value.bool).toArray.toList.countP (eqb k) = ns.count k := by
      rw [List.toList_toArray]
      exact bools_count k ns
    refine ⟨.int (ns.count k : Nat), H, I.tok _, ⟨s.toks, ?_⟩, q⟩
    show Value.int (((ns.map Value.bool).toArray.toList.countP (eqb k) : Nat) : Int) s.toks = Value.int ((ns.count k : Nat) : Int) s.toks
    rw [ec]
end AT

/-! ## more of the layer: stores into rows, menus, zip, ==, isinstance -/
namespace AT
open PySem PySem.Spec PyProof.Rows L2 Evl
abbrev E00 : Hp := fun _ => none
theorem ex_E00 {H : Hp} : Ex E00 H := fun _ _ h => by cases h
/-- a tracked list of lists, all apart -/
abbrev TLL (H : Hp) (a : Addr) (M : List (List Int)) : Prop := OLLI E00 H a M
theorem OLLI.tll {H0 H : Hp} {a : Addr} {M : List (List Int)} (h : OLLI H0 H a M) : TLL H a M := h.back ex_E00
section
variable {K : Frag} {σ : St} {H H0 H1 H' : Hp} {ta tb tc te ti tj tv : TE} {t : TT} {a b p r : Addr} {M : List (List Int)} {xs : List Int} {x y z v : V} {R : R3} {D : Ends} {tu tz : TS}

/-- M[i][j] = v -/
def setM (M : List (List Int)) (i j : Nat) (v : Int) : List (List Int) := M.set i ((M.getD i []).set j v)
theorem OLLI.store {i j : Nat} {row : List Int} {w : Int} (h : OLLI H0 H p M) (e : M[i]? = some row) : ∃ (as : List Addr) (x : Addr), H p = some (.lst (as.map V.ref)) ∧ as[i]? = some x ∧ H0 x = none ∧ H x = some (.lst (row.map V.int)) ∧
    ∀ H1, Ex H H1 → OLLI H0 (upd H1 x (.lst ((row.map V.int).set j (.int w)))) p (M.set i (row.set j w)) := by
  obtain ⟨as, h0, h1, hn, h2⟩ := h
  obtain ⟨x, ex, qx⟩ := paired_get h2 e
  refine ⟨as, x, h1, ex, qx.1, qx.2, fun H1 eH => ?_⟩
  rw [List.nodup_cons] at hn
  have hxm : x ∈ as := List.mem_of_getElem? ex
  have hpx : p ≠ x := fun z => hn.1 (z ▸ hxm)
  refine ⟨as, h0, by rw [upd_ne hpx]; exact eH _ _ h1, List.nodup_cons.mpr hn, ?_⟩
  refine paired_of (by rw [List.length_set, h2.length]) fun k y r hy hr => ?_
  by_cases hk : k = i
  · subst hk
    rw [ex] at hy; cases hy
    have hlt : k < M.length := (List.getElem?_eq_some_iff.mp e).1
    rw [List.getElem?_set_self hlt] at hr
    cases hr
    exact ⟨qx.1, by rw [upd_same, List.map_set]⟩
  · rw [List.getElem?_set_ne (Ne.symm hk)] at hr
    obtain ⟨z, hz, qz⟩ := paired_get h2 hr
    rw [hy] at hz; cases hz
    have hne : y ≠ x := fun e2 => hk (by
      subst e2
      obtain ⟨a1, b1⟩ := List.getElem?_eq_some_iff.mp hy
      obtain ⟨a2, b2⟩ := List.getElem?_eq_some_iff.mp ex
      exact (List.getElem_inj hn.2).mp (b1.trans b2.symm))
    exact ⟨qz.1, by rw [upd_ne hne]; exact eH _ _ qz.2⟩
theorem s_setM {i j : Nat} {row : List Int} {w : Int} (h : OLLI H0 H p M) (e0 : Ex H0 H) (e : M[i]? = some row) (hj : j < row.length) (he : Ev te σ H (.int w)) (ho : Ev tv σ H (.ref p)) (hi : Ev ti σ H (.int (i : Int))) (hj' : Ev tj σ H (.int (j : Int)))
    (k : ∀ H1, Ex H0 H1 → OLLI H0 H1 p (M.set i (row.set j w)) → D.nx σ H1) : tAsg te (gSub (tOp (rIxL K) tv ti) tj rSetL) D σ H := by
  obtain ⟨as, x, h1, h2, h3, h4, h5⟩ := h.store (j := j) (w := w) e
  refine s_setL (l := x) (xs := row.map V.int) (j := j) h4 he (ev_op ho hi (rv_ixL (sq_of h1) (atI_n (by rw [List.getElem?_map, h2]; rfl)))) hj' (by rw [List.length_map]; exact hj) fun H1 e1 => ?_
  exact k _ (Ex.mut (e0.trans e1) h3) (h5 H1 e1)
theorem q_setM {i j : Nat} {row : List Int} {w : Int} (h : OLLI H0 H p M) (e0 : Ex H0 H) (e : M[i]? = some row) (hj : j < row.length) (he : Ev te σ H (.int w)) (ho : Ev tv σ H (.ref p)) (hi : Ev ti σ H (.int (i : Int))) (hj' : Ev tj σ H (.int (j : Int)))
    (k : ∀ H1, Ex H0 H1 → OLLI H0 H1 p (M.set i (row.set j w)) → tz D σ H1) : tSeq (tAsg te (gSub (tOp (rIxL K) tv ti) tj rSetL)) tz D σ H :=
  s_setM (D := { D with nx := tz D }) h e0 e hj he ho hi hj' k
/-- f but v at i, j -/
def setF (f : Nat → Nat → Int) (i j : Nat) (v : Int) : Nat → Nat → Int := fun a b => if a = i ∧ b = j then v else f a b
theorem setF_fm {n i j : Nat} {f : Nat → Nat → Int} {v : Int} (hi : i < n) (hj : j < n) : (Fm n f).set i (((List.range n).map (f i)).set j v) = Fm n (setF f i j v) := by
  apply List.ext_getElem?
  intro a
  by_cases ha : a = i
  · subst ha
    rw [List.getElem?_set_self (by rw [fm_len]; exact hi), fm_get hi]
    congr 1
    apply List.ext_getElem?
    intro b
    by_cases hb : b = j
    · subst hb
      rw [List.getElem?_set_self (by simpa using hj), mapr_get hj]
      unfold setF
      rw [if_pos ⟨rfl, rfl⟩]
    · rw [List.getElem?_set_ne (Ne.symm hb)]
      by_cases hbn : b < n
      · rw [mapr_get hbn, mapr_get hbn]
        unfold setF
        rw [if_neg (fun z => hb z.2)]
      · rw [List.getElem?_eq_none (by simpa using hbn), List.getElem?_eq_none (by simpa using hbn)]
  · rw [List.getElem?_set_ne (Ne.symm ha)]
    by_cases han : a < n
    · rw [fm_get han, fm_get han]
      congr 1
      exact mapr_ext fun b _ => by
        unfold setF
        rw [if_neg (fun z => ha z.1)]
    · rw [List.getElem?_eq_none (by rw [fm_len]; omega), List.getElem?_eq_none (by rw [fm_len]; omega)]
theorem q_setFm {n i j : Nat} {f : Nat → Nat → Int} {w : Int} (h : OLLI H0 H p (Fm n f)) (e0 : Ex H0 H) (hin : i < n) (hjn : j < n) (he : Ev te σ H (.int w)) (ho : Ev tv σ H (.ref p)) (hi : Ev ti σ H (.int (i : Int))) (hj' : Ev tj σ H (.int (j : Int)))
    (k : ∀ H1, Ex H0 H1 → OLLI H0 H1 p (Fm n (setF f i j w)) → tz D σ H1) : tSeq (tAsg te (gSub (tOp (rIxL K) tv ti) tj rSetL)) tz D σ H :=
  q_setM h e0 (fm_get hin) (by simpa using hjn) he ho hi hj' fun H1 e1 h1 => k H1 e1 (by rw [setF_fm hin hjn] at h1; exact h1)
theorem s_setFm {n i j : Nat} {f : Nat → Nat → Int} {w : Int} (h : OLLI H0 H p (Fm n f)) (e0 : Ex H0 H) (hin : i < n) (hjn : j < n) (he : Ev te σ H (.int w)) (ho : Ev tv σ H (.ref p)) (hi : Ev ti σ H (.int (i : Int))) (hj' : Ev tj σ H (.int (j : Int)))
    (k : ∀ H1, Ex H0 H1 → OLLI H0 H1 p (Fm n (setF f i j w)) → D.nx σ H1) : tAsg te (gSub (tOp (rIxL K) tv ti) tj rSetL) D σ H :=
  s_setM h e0 (fm_get hin) (by simpa using hjn) he ho hi hj' fun H1 e1 h1 => k H1 e1 (by rw [setF_fm hin hjn] at h1; exact h1)

/-- [a, b, ..][i] -/
theorem ev_menu {ta : TA} {i : Nat} {vs : List V} {v : V} (h : EvA ta σ H vs) (hl : vs.length ≤ 100000) (hi : ∀ H1, Ex H H1 → Ev ti σ H1 (.int (i : Int))) (hv : vs[i]? = some v) : Ev (tOp (rIxL K) (tLst ta) ti) σ H v :=
  ev_opL1 (el_lst h hl) hi fun p H1 hp e1 => rv_ixL (sq_of hp) (atI_n hv)

/-- for x, y in zip(xs, ys) -/
theorem s_forZ {ta : TA} {i1 i2 : Nat} {xs ys : List V} (h : EvA ta σ H [.ref a, .ref b]) (ha : SqL K H a xs) (hb : SqL K H b ys) (hl : xs.length = ys.length) (Pv : Nat → St → Hp → Prop) (h0 : ∀ H1, Ex H H1 → Pv 0 σ H1)
    (hq : ∀ i σ' H', Pv i σ' H' → SqL K H' a xs ∧ SqL K H' b ys)
    (hs : ∀ (i : Nat) x y T σ' H', xs[i]? = some x → ys[i]? = some y → Pv i σ' H' → H' T = none → tu { D with nx := Pv (i + 1), ct := Pv (i + 1), bk := D.nx } ((σ'.set i1 (some x)).set i2 (some y)) (upd H' T (.tup [x, y])))
    (hd : ∀ σ' H', Pv xs.length σ' H' → D.nx σ' H') : tFor (iZip K ta) (gTup K 2 (gCons (gName i1) (gCons (gName i2) gNil))) tu D σ H :=
  h H (Ex.refl H) _ fun H1 e => ⟨a, b, xs, ys, rfl, ex_l e ha, ex_l e hb, RZ.for_zipL hl Pv (h0 H1 e) hq (fun i x y T σ' H' hx hy p hT => ⟨T, [x, y], rfl, st_of upd_same, rfl, x, [y], rfl, y, [], rfl, rfl, hs i x y T σ' H' hx hy p hT⟩) hd⟩
theorem q_forZ {ta : TA} {i1 i2 : Nat} {xs ys : List V} (h : EvA ta σ H [.ref a, .ref b]) (ha : SqL K H a xs) (hb : SqL K H b ys) (hl : xs.length = ys.length) (Pv : Nat → St → Hp → Prop) (h0 : ∀ H1, Ex H H1 → Pv 0 σ H1)
    (hq : ∀ i σ' H', Pv i σ' H' → SqL K H' a xs ∧ SqL K H' b ys)
    (hs : ∀ (i : Nat) x y T σ' H', xs[i]? = some x → ys[i]? = some y → Pv i σ' H' → H' T = none → tu { D with nx := Pv (i + 1), ct := Pv (i + 1), bk := tz D } ((σ'.set i1 (some x)).set i2 (some y)) (upd H' T (.tup [x, y])))
    (hd : ∀ σ' H', Pv xs.length σ' H' → tz D σ' H') : tSeq (tFor (iZip K ta) (gTup K 2 (gCons (gName i1) (gCons (gName i2) gNil))) tu) tz D σ H :=
  s_forZ (D := { D with nx := tz D }) h ha hb hl Pv h0 hq hs hd

/-! ### isinstance -/
theorem ev_isi {u w : Value} {n m : String} {k : Bool} (ha : Ev ta σ H x) (hx : ∀ H1, Ex H H1 → TyX K H1 x (.type n)) (hk : PySem.W.kitOne K (.type n) (.type m) = some k) : Ev (tCB (rIsi K) (tCons ta (tCons (tC (.ty m)) tNil))) σ H (.bl k) := fun H1 e Q q =>
  ha H1 e _ fun H2 e2 => ⟨x, .ty m, .type n, .type m, k, rfl, .ty m, hx H2 (e.trans e2), hk, q H2 e2⟩
theorem ev_isInt {i : Int} (ha : Ev ta σ H (.int i)) : Ev (tCB (rIsi K) (tCons ta (tCons (tC (.ty "int")) tNil))) σ H (.bl true) := ev_isi (u := .none) (w := .none) (n := "int") ha (fun _ _ => .base (.int i)) (kit_ty (by decide +kernel))
theorem ev_isIntBool {i : Int} (ha : Ev ta σ H (.int i)) : Ev (tCB (rIsi K) (tCons ta (tCons (tC (.ty "bool")) tNil))) σ H (.bl false) := ev_isi (u := .none) (w := .none) (n := "int") ha (fun _ _ => .base (.int i)) (kit_ty (by decide +kernel))
theorem ev_isList {vs : List V} (ha : Ev ta σ H (.ref p)) (h : H p = some (.lst vs)) : Ev (tCB (rIsi K) (tCons ta (tCons (tC (.ty "list")) tNil))) σ H (.bl true) := ev_isi (u := .none) (w := .none) (n := "list") ha (fun H1 e => .base (.lst (e _ _ h))) (kit_ty (by decide +kernel))
theorem ev_isBool {k : Bool} (ha : Ev ta σ H (.bl k)) : Ev (tCB (rIsi K) (tCons ta (tCons (tC (.ty "bool")) tNil))) σ H (.bl true) := ev_isi (u := .none) (w := .none) (n := "bool") ha (fun _ _ => .base (.bl k)) (kit_ty (by decide +kernel))

/-! ### == of lists of ints, of lists of them -/
def dI (xs : List Int) : List PyData := xs.map PyData.int
def dM (M : List (List Int)) : List PyData := M.map fun r => .list (dI r)
theorem dpAll_ints : ∀ xs : List Int, DpAll K H (xs.map V.int) (dI xs)
  | [] => .nil
  | x :: r => .cons (.int x) (dpAll_ints r)
theorem LI.dp (h : LI K H a xs) : Dp K H (.ref a) (.list (dI xs)) := .lst h (dpAll_ints xs)
theorem dpAll_rows : ∀ {as : List Addr} {M : List (List Int)}, Paired (fun x r => LI K H x r) as M → DpAll K H (as.map V.ref) (dM M)
  | _, _, .nil => .nil
  | _, _, .cons r t => .cons r.dp (dpAll_rows t)
theorem LLI.dp (h : LLI K H a M) : Dp K H (.ref a) (.list (dM M)) := by
  obtain ⟨as, h1, h2⟩ := h
  exact .lst h1 (dpAll_rows h2)
theorem canLay_ints : ∀ xs : List Int, PyData.canLayAll0 (dI xs) = true
  | [] => rfl
  | x :: r => by
    have := canLay_ints r
    simpa [dI, PyData.canLayAll0, PyData.canLay0] using this
theorem canLay_rows : ∀ M : List (List Int), PyData.canLayAll0 (dM M) = true
  | [] => rfl
  | x :: r => by
    have h1 := canLay_rows r
    have h2 := canLay_ints x
    simp only [dM, List.map_cons, PyData.canLayAll0, PyData.canLay0, Bool.and_eq_true]
    exact ⟨h2, h1⟩
theorem depth_ints : ∀ xs : List Int, PyData.depthAll (dI xs) ≤ 1
  | [] => by simp [dI, PyData.depthAll]
  | x :: r => by
    have := depth_ints r
    simp only [dI, List.map_cons, PyData.depthAll, PyData.depth] at *
    omega
theorem depth_rows : ∀ M : List (List Int), PyData.depthAll (dM M) ≤ 2
  | [] => by simp [dM, PyData.depthAll]
  | x :: r => by
    have h1 := depth_rows r
    have h2 := depth_ints x
    simp only [dM, List.map_cons, PyData.depthAll, PyData.depth] at *
    omega
theorem shaped_I (xs : List Int) : SeqAt.shaped (.list (dI xs)) = true := by
  unfold SeqAt.shaped
  rw [Bool.and_eq_true]
  refine ⟨by simpa [PyData.canLay0] using canLay_ints xs, decide_eq_true ?_⟩
  have := depth_ints xs
  simp only [PyData.depth]
  omega
theorem shaped_M (M : List (List Int)) : SeqAt.shaped (.list (dM M)) = true := by
  unfold SeqAt.shaped
  rw [Bool.and_eq_true]
  refine ⟨by simpa [PyData.canLay0] using canLay_rows M, decide_eq_true ?_⟩
  have := depth_rows M
  simp only [PyData.depth]
  omega
theorem eqv_I : ∀ xs ys : List Int, PyData.eqvAll (dI xs) (dI ys) = decide (xs = ys)
  | [], [] => rfl
  | [], _ :: _ => rfl
  | _ :: _, [] => rfl
  | x :: xs, y :: ys => by
    have ih := eqv_I xs ys
    show (PyData.eqv (.int x) (.int y) && PyData.eqvAll (dI xs) (dI ys)) = _
    rw [ih]
    show ((x == y) && decide (xs = ys)) = _
    by_cases e : x = y
    · subst e; simp
    · simp [e]
theorem eqv_M : ∀ xs ys : List (List Int), PyData.eqvAll (dM xs) (dM ys) = decide (xs = ys)
  | [], [] => rfl
  | [], _ :: _ => rfl
  | _ :: _, [] => rfl
  | x :: xs, y :: ys => by
    have ih := eqv_M xs ys
    show (PyData.eqv (.list (dI x)) (.list (dI y)) && PyData.eqvAll (dM xs) (dM ys)) = _
    rw [ih]
    show (PyData.eqvAll (dI x) (dI y) && decide (xs = ys)) = _
    rw [eqv_I]
    by_cases e : x = y
    · subst e; simp
    · simp [e]
theorem rv_eqM {N : List (List Int)} (ha : LLI K H a M) (hb : LLI K H b N) : RV (rEqD K) (.ref a) (.ref b) H (.bl (decide (M = N))) := fun H1 e Q q =>
  ⟨_, _, (ha.mono e).dp, (hb.mono e).dp, shaped_M M, shaped_M N, by
    show Q (.bl (PyData.eqvAll (dM M) (dM N))) H1
    rw [eqv_M]
    exact q H1 (Ex.refl _)⟩
theorem rv_neM {N : List (List Int)} (ha : LLI K H a M) (hb : LLI K H b N) : RV (rNeD K) (.ref a) (.ref b) H (.bl (!decide (M = N))) := fun H1 e Q q =>
  ⟨_, _, (ha.mono e).dp, (hb.mono e).dp, shaped_M M, shaped_M N, by
    show Q (.bl (!PyData.eqvAll (dM M) (dM N))) H1
    rw [eqv_M]
    exact q H1 (Ex.refl _)⟩
theorem rv_eqI {ys : List Int} (ha : LI K H a xs) (hb : LI K H b ys) : RV (rEqD K) (.ref a) (.ref b) H (.bl (decide (xs = ys))) := fun H1 e Q q =>
  ⟨_, _, (ha.mono e).dp, (hb.mono e).dp, shaped_I xs, shaped_I ys, by
    show Q (.bl (PyData.eqvAll (dI xs) (dI ys))) H1
    rw [eqv_I]
    exact q H1 (Ex.refl _)⟩
theorem rv_neI {ys : List Int} (ha : LI K H a xs) (hb : LI K H b ys) : RV (rNeD K) (.ref a) (.ref b) H (.bl (!decide (xs = ys))) := fun H1 e Q q =>
  ⟨_, _, (ha.mono e).dp, (hb.mono e).dp, shaped_I xs, shaped_I ys, by
    show Q (.bl (!PyData.eqvAll (dI xs) (dI ys))) H1
    rw [eqv_I]
    exact q H1 (Ex.refl _)⟩
/-- x, y = e1, e2 -/
theorem s_par {i j : Nat} {ta : TA} {v1 v2 : V} (h : EvA ta σ H [v1, v2]) (k : ∀ H1, Ex H H1 → D.nx ((σ.set i (some v1)).set j (some v2)) H1) : tPar i j ta D σ H := h H (Ex.refl H) _ fun H1 e => ⟨v1, v2, rfl, k H1 e⟩
theorem q_par {i j : Nat} {ta : TA} {v1 v2 : V} (h : EvA ta σ H [v1, v2]) (k : ∀ H1, Ex H H1 → tz D ((σ.set i (some v1)).set j (some v2)) H1) : tSeq (tPar i j ta) tz D σ H := s_par (D := { D with nx := tz D }) h k
/-! ### xs[1:], calls with new arguments, xs.pop() -/
theorem cut1 (xs : List V) : cutV xs (some 1) none = xs.drop 1 := by
  unfold cutV
  rw [show HT.sIx xs.length 0 (some 1) = min 1 xs.length from HT.sIx_nat xs.length 0 1, HT.sIx_none]
  cases xs with
  | nil => rfl
  | cons x r =>
    rw [show min 1 (x :: r).length = 1 by
      rw [List.length_cons]
      omega]
    show (List.take ((x :: r).length - 1) r) = r
    rw [List.length_cons, Nat.add_sub_cancel]
    exact List.take_length
def RTL (N : List (List Int)) : R3 := fun _ H2 v => ∃ y, v = .ref y ∧ TLL H2 y N
theorem er_slice1 {N : List (List Int)} {x : Addr} (h : Ev te σ H (.ref x)) (hN : OLLI H0 H x N) : Er (tSl (rSlL K) te (tPart (tC (.int 1))) tNoPart) σ H (RTL (N.drop 1)) := fun H1 e Q q => by
  obtain ⟨as, _, h1, hn, h2⟩ := hN
  refine el_sl h (eo_some ev_c) eo_none (sq_of h1) H1 e _ fun p H2 hp e2 hp2 => q _ H2 e2 ⟨p, rfl, as.drop 1, rfl, ?_, ?_, ?_⟩
  · rw [hp2, cut1, List.map_drop]
  · rw [List.nodup_cons] at hn ⊢
    refine ⟨fun hm => ?_, hn.2.sublist (List.drop_sublist 1 as)⟩
    have hm2 : p ∈ as := List.mem_of_mem_drop hm
    obtain ⟨r, _, hr⟩ := paired_mem h2 hm2
    have := e _ _ hr.2
    rw [hp] at this
    cases this
  · exact paired_drop 1 (paired_mono h2 fun x r q => ⟨rfl, (e.trans e2) _ _ q.2⟩)
theorem ev_callR2 {R1 R2 : R3} {sp : Sp} {E : XK} {t1 t2 : TE} (h1 : Er t1 σ H R1) (h2 : Er t2 σ H R2) (hs : ∀ v1 v2 H1 H2 H3, Ex H H1 → Ex H1 H2 → Ex H2 H3 → R1 H1 H2 v1 → R2 H2 H3 v2 → SpV sp [v1, v2] H3 z) : Ev (tCall sp [] E (tCons t1 (tCons t2 tNil))) σ H z := fun H1 e Q q =>
  h1 H1 e _ fun v1 H2 e2 r1 => h2 H2 (e.trans e2) _ fun v2 H3 e3 r2 => hs v1 v2 H1 H2 H3 e e2 e3 r1 r2 H3 (Ex.refl _) Q (fun H4 e4 => q H4 ((e2.trans e3).trans e4)) E
theorem s_pop {l : Addr} {vs : List V} {y : V} (hl : H l = some (.lst vs)) (ha : Ev ta σ H (.ref l)) (hy : vs[vs.length - 1]? = some y) (k : ∀ H1, Ex H H1 → D.nx σ (upd H1 l (.lst vs.dropLast))) : tDrop (tBM0 K "list" rPop ta) D σ H :=
  ha H (Ex.refl H) _ fun H1 e1 => ⟨.inl ⟨rfl, vs, sq_of (e1 _ _ hl)⟩, l, vs, y, rfl, rfl, e1 _ _ hl, hy, k H1 e1⟩
end
end AT

/-! ## calls whose arguments are new things; the greatest of a list -/
namespace AT
open PySem PySem.Spec PyProof.Rows L2 Evl
section
variable {K : Frag} {σ : St} {H H0 H1 H' : Hp} {ta : TA} {te t1 t2 : TE} {t : TT} {a b p r : Addr} {M : List (List Int)} {xs : List Int} {x y z v : V} {R R1 R2 : R3} {D : Ends} {tu tz : TS} {sp : Sp} {E : XK} {vs : List V}
theorem ev_callR1 (h1 : Er t1 σ H R1) (h2 : EvA ta σ H vs) (hs : ∀ v1 H1 H2 H3, Ex H H1 → Ex H1 H2 → Ex H2 H3 → R1 H1 H2 v1 → SpV sp (v1 :: vs) H3 z) : Ev (tCall sp [] E (tCons t1 ta)) σ H z := fun H1 e Q q =>
  h1 H1 e _ fun v1 H2 e2 r1 => h2 H2 (e.trans e2) _ fun H3 e3 => (by
    show sp ((v1 :: vs) ++ []) H3 Q E
    rw [List.append_nil]
    exact hs v1 H1 H2 H3 e e2 e3 r1 H3 (Ex.refl _) Q (fun H4 e4 => q H4 ((e2.trans e3).trans e4)) E)
theorem er_callR1 (mR : Mon R) (h1 : Er t1 σ H R1) (h2 : EvA ta σ H vs) (hs : ∀ v1 H1 H2 H3, Ex H H1 → Ex H1 H2 → Ex H2 H3 → R1 H1 H2 v1 → SpR sp (v1 :: vs) H3 R) : Er (tCall sp [] E (tCons t1 ta)) σ H R := fun H1 e Q q =>
  h1 H1 e _ fun v1 H2 e2 r1 => h2 H2 (e.trans e2) _ fun H3 e3 => (by
    show sp ((v1 :: vs) ++ []) H3 Q E
    rw [List.append_nil]
    exact hs v1 H1 H2 H3 e e2 e3 r1 H3 (Ex.refl _) Q (fun v H4 e4 r => q v H4 ((e2.trans e3).trans e4) (mR.dn (e2.trans e3) r)) E)
theorem er_callR2 (mR : Mon R) (h1 : Er t1 σ H R1) (h2 : Er t2 σ H R2) (hs : ∀ v1 v2 H1 H2 H3, Ex H H1 → Ex H1 H2 → Ex H2 H3 → R1 H1 H2 v1 → R2 H2 H3 v2 → SpR sp [v1, v2] H3 R) : Er (tCall sp [] E (tCons t1 (tCons t2 tNil))) σ H R := fun H1 e Q q =>
  h1 H1 e _ fun v1 H2 e2 r1 => h2 H2 (e.trans e2) _ fun v2 H3 e3 r2 => hs v1 v2 H1 H2 H3 e e2 e3 r1 r2 H3 (Ex.refl _) Q (fun v H4 e4 r => q v H4 ((e2.trans e3).trans e4) (mR.dn (e2.trans e3) r)) E
/-- x a name, the second new -/
theorem er_evR (h : Ev te σ H v) : Er te σ H (fun _ _ u => u = v) := fun H1 e Q q => h H1 e Q fun H2 e2 => q v H2 e2 rfl

/-! ### max -/
def maxL : List Int → Int
  | [] => 0
  | [x] => x
  | x :: y :: r => if x ≤ maxL (y :: r) then maxL (y :: r) else x
theorem maxL_mem : ∀ {xs : List Int}, xs ≠ [] → maxL xs ∈ xs
  | [], h => absurd rfl h
  | [x], _ => List.mem_cons_self
  | x :: y :: r, _ => by
    unfold maxL
    split
    · exact List.mem_cons_of_mem _ (maxL_mem (by simp))
    · exact List.mem_cons_self
theorem maxL_le : ∀ {xs : List Int} {y : Int}, y ∈ xs → y ≤ maxL xs
  | [x], y, h => by
    have : y = x := by simpa using h
    subst this
    exact Int.le_refl _
  | x :: z :: r, y, h => by
    unfold maxL
    rcases List.mem_cons.mp h with rfl | h
    · split <;> omega
    · have := maxL_le (xs := z :: r) h
      split <;> omega
theorem maxL_eq {xs : List Int} {m : Int} (h1 : m ∈ xs) (h2 : ∀ y, y ∈ xs → y ≤ m) : m = maxL xs :=
  Int.le_antisymm (maxL_le h1) (h2 _ (maxL_mem (fun z => by subst z; cases h1)))
theorem maxL_le_iff {xs : List Int} {b : Int} (h : xs ≠ []) : maxL xs ≤ b ↔ ∀ y, y ∈ xs → y ≤ b :=
  ⟨fun h2 y hy => Int.le_trans (maxL_le hy) h2, fun h2 => h2 _ (maxL_mem h)⟩
theorem ev_max (h : EvL te σ H (xs.map V.int)) (hn : xs ≠ []) : Ev (tCB (rMax K) (tCons te tNil)) σ H (.int (maxL xs)) := fun H1 e Q q =>
  h H1 e _ fun p H2 hp e2 h2 => ⟨p, xs, rfl, sq_of h2, List.length_pos_iff.mpr hn, fun m hm hle => by
    rw [maxL_eq hm hle]
    exact q H2 e2⟩
theorem ev_maxN (h : Ev te σ H (.ref a)) (hL : LI K H a xs) (hn : xs ≠ []) : Ev (tCB (rMax K) (tCons te tNil)) σ H (.int (maxL xs)) := fun H1 e Q q =>
  h H1 e _ fun H2 e2 => ⟨a, xs, rfl, hL.mono (e.trans e2), List.length_pos_iff.mpr hn, fun m hm hle => by
    rw [maxL_eq hm hle]
    exact q H2 e2⟩
/-- [te for x in xs] of ints, over the rows of a list of lists, over a list of ints -/
theorem el_lcRows {tl : TE} {j : Nat} {ws : List Nat} (g : List Int → Int) (h : Ev tl σ H (.ref a)) (hM : LLI K H a M) (hz : M.length ≤ 40000) (hw : ∀ x, wipe ((wipe σ ws).set j (some x)) ws = wipe σ ws)
    (he : ∀ x r H1, Ex H H1 → r ∈ M → LI K H1 x r → Ev te ((wipe σ ws).set j (some (.ref x))) H1 (.int (g r))) : EvL (tLc (iList K tl) (gName j) tYes te ws) σ H ((M.map g).map V.int) := by
  obtain ⟨as, h1, h2⟩ := hM
  have hl := h2.length
  have := el_lcL (K := K) (te := te) (t := tYes) (fun _ => true) (fun i => .int (g (M.getD i []))) h h1 (by rw [List.length_map]; omega) hw (fun _ _ _ _ _ _ _ Q q => q _ (Ex.refl _)) (fun i x H1 e1 hx _ => by
    rw [List.getElem?_map] at hx
    cases hy : as[i]? with
    | none => rw [hy] at hx; cases hx
    | some y =>
      rw [hy] at hx
      cases hx
      obtain ⟨r, q1, q2⟩ := paired_getL h2 hy
      rw [List.getD_eq_getElem?_getD, q1]
      exact he y r H1 e1 (List.mem_of_getElem? q1) (q2.mono e1))
  unfold given at this
  rw [filt_all, List.length_map, hl] at this
  have e : (List.range M.length).map (fun i => V.int (g (M.getD i []))) = (M.map g).map V.int := by
    rw [List.map_map]
    conv => rhs; rw [list_eq_range' [] M]
    rw [List.map_map]; rfl
  rw [e] at this
  exact this
where
  list_eq_range' {α : Type} (d : α) (l : List α) : l = (List.range l.length).map fun i => l.getD i d := by
    apply List.ext_getElem
    · simp
    · intro i h1 h2
      simp [List.getD_eq_getElem?_getD, h1]
theorem el_lcInts {tl : TE} {j : Nat} {ws : List Nat} (g : Int → Int) (h : Ev tl σ H (.ref a)) (hM : LI K H a xs) (hz : xs.length ≤ 40000) (hw : ∀ x, wipe ((wipe σ ws).set j (some x)) ws = wipe σ ws)
    (he : ∀ x H1, Ex H H1 → Ev te ((wipe σ ws).set j (some (.int x))) H1 (.int (g x))) : EvL (tLc (iList K tl) (gName j) tYes te ws) σ H ((xs.map g).map V.int) := by
  have := el_lcL (K := K) (te := te) (t := tYes) (fun _ => true) (fun i => .int (g (xs.getD i 0))) h hM (by rw [List.length_map]; omega) hw (fun _ _ _ _ _ _ _ Q q => q _ (Ex.refl _)) (fun i x H1 e1 hx _ => by
    rw [List.getElem?_map] at hx
    cases hy : xs[i]? with
    | none => rw [hy] at hx; cases hx
    | some y =>
      rw [hy] at hx
      cases hx
      rw [List.getD_eq_getElem?_getD, hy]
      exact he y H1 e1)
  unfold given at this
  rw [filt_all, List.length_map] at this
  have e : (List.range xs.length).map (fun i => V.int (g (xs.getD i 0))) = (xs.map g).map V.int := by
    rw [List.map_map]
    apply List.ext_getElem
    · simp
    · intro i h1 h2
      simp at h1
      simp [List.getD_eq_getElem?_getD, h1]
  rw [e] at this
  exact this
end
/-! ### calls of the known defs -/
end AT

/-! ## chains of comparisons, ifs on a known number, rows changed -/
namespace AT
open PySem PySem.Spec PyProof.Rows L2 Evl
section
variable {K : Frag} {σ : St} {H H0 H1 H' : Hp} {ta tb tc te t1 t2 : TE} {t : TT} {a b p r : Addr} {M : List (List Int)} {xs : List Int} {x y z v : V} {R Ra Rb : R3} {D : Ends} {tu tz : TS}
theorem ev_chain {r r' : R2} {k1 k2 : Bool} (ha : Ev ta σ H x) (hb : Ev tb σ H y) (hr : RV r x y H (.bl k1)) (hc : Ev tc σ H z) (hr' : RV r' y z H (.bl k2)) : Ev (tChain r r' ta tb tc) σ H (.bl (k1 && k2)) := fun H1 e Q q =>
  ha H1 e _ fun H2 e2 => hb H2 (e.trans e2) _ fun H3 e3 => hr H3 ((e.trans e2).trans e3) _ fun H4 e4 => ⟨k1, rfl, by
    cases k1 with
    | false =>
      rw [if_neg Bool.false_ne_true]
      exact q H4 ((e2.trans e3).trans e4)
    | true =>
      rw [if_pos rfl]
      exact hc H4 (((e.trans e2).trans e3).trans e4) _ fun H5 e5 => hr' H5 ((((e.trans e2).trans e3).trans e4).trans e5) _ fun H6 e6 => q H6 (((e2.trans e3).trans e4).trans (e5.trans e6))⟩
theorem q_skip {i : Nat} {m k : Int} (h : σ[i]? = some (some (.int m))) (hm : m ≠ k) (q : tz D σ H) : tSeq (tIfS (tTest (tOp rEq (tVar i) (tC (.int k)))) tu tNext) tz D σ H :=
  ⟨.int m, h, rfl, _, rfl, by
    have : ¬ (V.int m = V.int k) := fun e => hm (by injection e)
    show (if decide (V.int m = V.int k) = true then _ else _)
    rw [if_neg (by simp [this])]
    exact q⟩
theorem q_take {i : Nat} {m k : Int} (h : σ[i]? = some (some (.int m))) (hm : m = k) (q : tu { D with nx := tz D } σ H) : tSeq (tIfS (tTest (tOp rEq (tVar i) (tC (.int k)))) tu tNext) tz D σ H :=
  ⟨.int m, h, rfl, _, rfl, by
    subst hm
    show (if decide (V.int m = V.int m) = true then _ else _)
    rw [if_pos (by simp)]
    exact q⟩
theorem s_skip {i : Nat} {m k : Int} (h : σ[i]? = some (some (.int m))) (hm : m ≠ k) (q : D.nx σ H) : tIfS (tTest (tOp rEq (tVar i) (tC (.int k)))) tu tNext D σ H :=
  ⟨.int m, h, rfl, _, rfl, by
    have : ¬ (V.int m = V.int k) := fun e => hm (by injection e)
    show (if decide (V.int m = V.int k) = true then _ else _)
    rw [if_neg (by simp [this])]
    exact q⟩
theorem s_take {i : Nat} {m k : Int} (h : σ[i]? = some (some (.int m))) (hm : m = k) (q : tu D σ H) : tIfS (tTest (tOp rEq (tVar i) (tC (.int k)))) tu tNext D σ H :=
  ⟨.int m, h, rfl, _, rfl, by
    subst hm
    show (if decide (V.int m = V.int m) = true then _ else _)
    rw [if_pos (by simp)]
    exact q⟩
theorem paired_eraseIdx {α β : Type} {F : α → β → Prop} : ∀ {l₁ : List α} {l₂ : List β} (n : Nat), Paired F l₁ l₂ → Paired F (l₁.eraseIdx n) (l₂.eraseIdx n)
  | _, _, _, .nil => by simp only [List.eraseIdx_nil]; exact .nil
  | _, _, 0, .cons _ t => t
  | _, _, n + 1, .cons r t => .cons r (paired_eraseIdx n t)
theorem map_erase {α β : Type} (f : α → β) : ∀ (l : List α) (i : Nat), (l.map f).eraseIdx i = (l.eraseIdx i).map f
  | [], i => by simp
  | a :: r, 0 => rfl
  | a :: r, n + 1 => by simp [map_erase f r n]
/-- a row of a tracked list of lists, and what becomes of all where it is put otherwise -/
theorem OLLI.row_upd {i : Nat} {row : List Int} (h : OLLI H0 H p M) (e : M[i]? = some row) : ∃ (as : List Addr) (x : Addr), H p = some (.lst (as.map V.ref)) ∧ as[i]? = some x ∧ H0 x = none ∧ H x = some (.lst (row.map V.int)) ∧
    ∀ H1 row', Ex H H1 → OLLI H0 (upd H1 x (.lst (row'.map V.int))) p (M.set i row') := by
  obtain ⟨as, h0, h1, hn, h2⟩ := h
  obtain ⟨x, ex, qx⟩ := paired_get h2 e
  refine ⟨as, x, h1, ex, qx.1, qx.2, fun H1 row' eH => ?_⟩
  rw [List.nodup_cons] at hn
  have hxm : x ∈ as := List.mem_of_getElem? ex
  have hpx : p ≠ x := fun z => hn.1 (z ▸ hxm)
  refine ⟨as, h0, by rw [upd_ne hpx]; exact eH _ _ h1, List.nodup_cons.mpr hn, ?_⟩
  refine paired_of (by rw [List.length_set, h2.length]) fun k y r hy hr => ?_
  by_cases hk : k = i
  · subst hk
    rw [ex] at hy; cases hy
    have hlt : k < M.length := (List.getElem?_eq_some_iff.mp e).1
    rw [List.getElem?_set_self hlt] at hr
    cases hr
    exact ⟨qx.1, upd_same⟩
  · rw [List.getElem?_set_ne (Ne.symm hk)] at hr
    obtain ⟨z, hz, qz⟩ := paired_get h2 hr
    rw [hy] at hz; cases hz
    have hne : y ≠ x := fun e2 => hk (by
      subst e2
      obtain ⟨a1, b1⟩ := List.getElem?_eq_some_iff.mp hy
      obtain ⟨a2, b2⟩ := List.getElem?_eq_some_iff.mp ex
      exact (List.getElem_inj hn.2).mp (b1.trans b2.symm))
    exact ⟨qz.1, by rw [upd_ne hne]; exact eH _ _ qz.2⟩
theorem OLLI.erase (h : OLLI H0 H p M) (i : Nat) : ∃ vs : List V, H p = some (.lst vs) ∧ vs.length = M.length ∧ ∀ H1, Ex H H1 → OLLI H0 (upd H1 p (.lst (vs.eraseIdx i))) p (M.eraseIdx i) := by
  obtain ⟨as, h0, h1, hn, h2⟩ := h
  refine ⟨as.map V.ref, h1, by rw [List.length_map, h2.length], fun H1 e => ⟨as.eraseIdx i, h0, ?_, ?_, ?_⟩⟩
  · rw [upd_same, map_erase]
  · rw [List.nodup_cons] at hn ⊢
    exact ⟨fun hm => hn.1 ((List.eraseIdx_sublist as i).subset hm), hn.2.sublist (List.eraseIdx_sublist as i)⟩
  · rw [List.nodup_cons] at hn
    have h3 : Paired (fun x r => OLI H0 H1 x r) as M := paired_mono h2 fun _ _ q => q.mono e
    refine paired_mem_mono (paired_eraseIdx i h3) fun x r hx q => ⟨q.1, ?_⟩
    have hxa : x ∈ as := (List.eraseIdx_sublist as i).subset hx
    rw [upd_ne (fun z : x = p => hn.1 (z ▸ hxa))]
    exact q.2
theorem seqIx {i n : Nat} (h : i < n) : seqIndex? (i : Int) n = some i := by
  unfold seqIndex?
  have e : (if (i : Int) < 0 then (i : Int) + (n : Int) else (i : Int)) = (i : Int) := if_neg (by omega)
  simp only [e]
  rw [if_pos (by simp; omega)]
  simp
/-- [te] of a new list -/
theorem er_lstM {row : List Int} (h : Er te σ H (RL row)) : Er (tLst (tCons te tNil)) σ H (RM [row]) := fun H1 e Q q =>
  h H1 e (fun x H2 => [x].length ≤ sizeLine ∧ ∀ p, H2 p = none → Q (.ref p) (upd H2 p (.lst [x]))) fun v H2 e2 ⟨r, hv, hr, hr2⟩ => by
    subst hv
    exact ⟨by show 1 ≤ sizeLine; decide, fun p hp => q _ _ (e2.trans (Ex.new hp)) ⟨p, rfl, [r], fresh_back e2 hp, upd_same, by simpa using (ne_of_none hr2 hp).symm, .cons ⟨hr, by rw [upd_ne (ne_of_none hr2 hp)]; exact hr2⟩ .nil⟩⟩
/-- a call for its own sake, the first argument new -/
theorem s_dropR1 {sp : Sp} {E : XK} {dvs : List V} {ta : TA} (h1 : Er te σ H R) (k : ∀ v H1, Ex H H1 → R H H1 v → ta σ H1 (fun vs H2 => sp ((v :: vs) ++ dvs) H2 (fun _ H3 => D.nx σ H3) E)) : tDrop (tCall sp dvs E (tCons te ta)) D σ H :=
  h1 H (Ex.refl _) (fun x H2 => ta σ H2 fun xs H3 => sp ((x :: xs) ++ dvs) H3 (fun _ H4 => D.nx σ H4) E) k
/-- x = f(..) in a try, f(..) in a try -/
theorem s_asgS {sp : Sp} {Ef : L2.St → XK} {i : Nat} {ta : TA} {vs : List V} (h : EvA ta σ H vs) (k : ∀ H1, Ex H H1 → sp vs H1 (fun v H2 => D.nx (σ.set i (some v)) H2) (Ef σ)) : tAsg (tCallS sp Ef ta) (gName i) D σ H := h H (Ex.refl H) _ k
theorem s_dropS {sp : Sp} {Ef : L2.St → XK} {ta : TA} {vs : List V} (h : EvA ta σ H vs) (k : ∀ H1, Ex H H1 → sp vs H1 (fun _ H2 => D.nx σ H2) (Ef σ)) : tDrop (tCallS sp Ef ta) D σ H := h H (Ex.refl H) _ k
/-- xs.pop(i) as a statement -/
theorem s_popAt {l : Addr} {vs : List V} {i : Nat} (hl : H l = some (.lst vs)) (ha : Ev ta σ H (.ref l)) (hi : Ev tb σ H (.int (i : Int))) (hin : i < vs.length) (hs : vs.length ≤ 100000) (k : ∀ H1, Ex H H1 → D.nx σ (upd H1 l (.lst (vs.eraseIdx i)))) : tDrop (tBM K "list" rPopAt ta (tCons tb tNil)) D σ H :=
  ha H (Ex.refl H) _ fun H1 e1 => ⟨.inl ⟨rfl, vs, sq_of (e1 _ _ hl)⟩, hi H1 e1 _ fun H2 e2 => ⟨l, vs, (i : Int), i, vs[i], rfl, rfl, (e1.trans e2) _ _ hl, by omega, by omega, seqIx hin, List.getElem?_eq_getElem hin, k H2 (e1.trans e2)⟩⟩
end
end AT

/-! ## data that can be compared: < and its fellows -/
namespace AT
open PySem PySem.Spec PyProof.Rows L2 Evl
section
variable {X : Cx}
def rGtD (K : Frag) : R2 := fun x y H Q => ∃ d e, Dp K H x d ∧ Dp K H y e ∧ PySem.W.alike d e = true ∧ d ≠ .none ∧ d.depth ≤ 60 ∧ Q (.bl (PySem.W.dataLt e d)) H
def rLtD (K : Frag) : R2 := fun x y H Q => ∃ d e, Dp K H x d ∧ Dp K H y e ∧ PySem.W.alike d e = true ∧ d ≠ .none ∧ d.depth ≤ 60 ∧ Q (.bl (PySem.W.dataLt d e)) H
def rGeD (K : Frag) : R2 := fun x y H Q => ∃ d e, Dp K H x d ∧ Dp K H y e ∧ PySem.W.alike d e = true ∧ d ≠ .none ∧ d.depth ≤ 60 ∧ Q (.bl (!PySem.W.dataLt d e)) H
def rLeD (K : Frag) : R2 := fun x y H Q => ∃ d e, Dp K H x d ∧ Dp K H y e ∧ PySem.W.alike d e = true ∧ d ≠ .none ∧ d.depth ≤ 60 ∧ Q (.bl (!PySem.W.dataLt e d)) H
theorem gtDK (K : Frag) (hu : X.A.units + 64 < cLine) (h : X.K = K := by rfl) : OpR X (compareOp .Gt) (rGtD K) := by
  subst h
  intro pins s σ H x y v u Q I rx ry h
  obtain ⟨d, e, hd, he, ha, hn, hdp, q⟩ := h
  obtain ⟨as, r1⟩ := Dp.reads I d x v hd rx
  obtain ⟨bs, r2⟩ := Dp.reads I e y u he ry
  exact PySem.W.gt_data r1 r2 ha hn (by omega) ⟨.bl _, H, I, rfl, q⟩
theorem ltDK (K : Frag) (hu : X.A.units + 64 < cLine) (h : X.K = K := by rfl) : OpR X (compareOp .Lt) (rLtD K) := by
  subst h
  intro pins s σ H x y v u Q I rx ry h
  obtain ⟨d, e, hd, he, ha, hn, hdp, q⟩ := h
  obtain ⟨as, r1⟩ := Dp.reads I d x v hd rx
  obtain ⟨bs, r2⟩ := Dp.reads I e y u he ry
  exact PySem.W.lt_data r1 r2 ha hn (by omega) ⟨.bl _, H, I, rfl, q⟩
theorem geDK (K : Frag) (hu : X.A.units + 64 < cLine) (h : X.K = K := by rfl) : OpR X (compareOp .GtE) (rGeD K) := by
  subst h
  intro pins s σ H x y v u Q I rx ry h
  obtain ⟨d, e, hd, he, ha, hn, hdp, q⟩ := h
  obtain ⟨as, r1⟩ := Dp.reads I d x v hd rx
  obtain ⟨bs, r2⟩ := Dp.reads I e y u he ry
  exact PySem.W.ge_data r1 r2 ha hn (by omega) ⟨.bl _, H, I, rfl, q⟩
theorem leDK (K : Frag) (hu : X.A.units + 64 < cLine) (h : X.K = K := by rfl) : OpR X (compareOp .LtE) (rLeD K) := by
  subst h
  intro pins s σ H x y v u Q I rx ry h
  obtain ⟨d, e, hd, he, ha, hn, hdp, q⟩ := h
  obtain ⟨as, r1⟩ := Dp.reads I d x v hd rx
  obtain ⟨bs, r2⟩ := Dp.reads I e y u he ry
  exact PySem.W.le_data r1 r2 ha hn (by omega) ⟨.bl _, H, I, rfl, q⟩
end
section
variable {K : Frag} {H : Hp} {α : Type} [DecidableEq α] [PySem.W.DatumOrd α] {x y : V} {a b : α}
theorem rv_gtD (hx : ∀ H1, Ex H H1 → Dp K H1 x (PySem.W.Datum.toD a)) (hy : ∀ H1, Ex H H1 → Dp K H1 y (PySem.W.Datum.toD b)) (hd : PySem.W.Datum.depth α ≤ 60) : RV (rGtD K) x y H (.bl (PySem.W.DatumOrd.lt b a)) := fun H1 e Q q =>
  ⟨_, _, hx H1 e, hy H1 e, PySem.W.DatumOrd.alike a b, PySem.W.DatumOrd.notNone a, Nat.le_trans (PySem.W.Datum.depth_le a) hd, by rw [PySem.W.DatumOrd.lt_eq]; exact q H1 (Ex.refl _)⟩
theorem rv_ltD (hx : ∀ H1, Ex H H1 → Dp K H1 x (PySem.W.Datum.toD a)) (hy : ∀ H1, Ex H H1 → Dp K H1 y (PySem.W.Datum.toD b)) (hd : PySem.W.Datum.depth α ≤ 60) : RV (rLtD K) x y H (.bl (PySem.W.DatumOrd.lt a b)) := fun H1 e Q q =>
  ⟨_, _, hx H1 e, hy H1 e, PySem.W.DatumOrd.alike a b, PySem.W.DatumOrd.notNone a, Nat.le_trans (PySem.W.Datum.depth_le a) hd, by rw [PySem.W.DatumOrd.lt_eq]; exact q H1 (Ex.refl _)⟩
theorem rv_geD (hx : ∀ H1, Ex H H1 → Dp K H1 x (PySem.W.Datum.toD a)) (hy : ∀ H1, Ex H H1 → Dp K H1 y (PySem.W.Datum.toD b)) (hd : PySem.W.Datum.depth α ≤ 60) : RV (rGeD K) x y H (.bl (!PySem.W.DatumOrd.lt a b)) := fun H1 e Q q =>
  ⟨_, _, hx H1 e, hy H1 e, PySem.W.DatumOrd.alike a b, PySem.W.DatumOrd.notNone a, Nat.le_trans (PySem.W.Datum.depth_le a) hd, by rw [PySem.W.DatumOrd.lt_eq]; exact q H1 (Ex.refl _)⟩
theorem rv_leD (hx : ∀ H1, Ex H H1 → Dp K H1 x (PySem.W.Datum.toD a)) (hy : ∀ H1, Ex H H1 → Dp K H1 y (PySem.W.Datum.toD b)) (hd : PySem.W.Datum.depth α ≤ 60) : RV (rLeD K) x y H (.bl (!PySem.W.DatumOrd.lt b a)) := fun H1 e Q q =>
  ⟨_, _, hx H1 e, hy H1 e, PySem.W.DatumOrd.alike a b, PySem.W.DatumOrd.notNone a, Nat.le_trans (PySem.W.Datum.depth_le a) hd, by rw [PySem.W.DatumOrd.lt_eq]; exact q H1 (Ex.refl _)⟩
end
abbrev ltI (xs ys : List Int) : Bool := PySem.W.listLt xs ys
abbrev ltM (M N : List (List Int)) : Bool := PySem.W.listLt M N
theorem toD_I (xs : List Int) : PySem.W.Datum.toD xs = PyData.list (dI xs) := rfl
theorem toD_M (M : List (List Int)) : PySem.W.Datum.toD M = PyData.list (dM M) := rfl
theorem rv_gtI {K : Frag} {H : Hp} {a b : Addr} {xs ys : List Int} (ha : LI K H a xs) (hb : LI K H b ys) : RV (rGtD K) (.ref a) (.ref b) H (.bl (ltI ys xs)) :=
  rv_gtD (a := xs) (b := ys) (fun H1 e => (ha.mono e).dp) (fun H1 e => (hb.mono e).dp) (by decide)
end AT

/-! ## the least of data -/
namespace AT
open PySem PySem.Spec PyProof.Rows L2 Evl
section
variable {X : Cx}
def rMinD (K : Frag) : List V → Hp → VK → Prop := fun vs H Q => ∃ (a : Addr) (xs : List V) (d : PyData) (ds : List PyData), vs = [V.ref a] ∧ SqL K H a xs ∧ DpAll K H xs (d :: ds) ∧ PySem.W.AlikeAll (d :: ds) ∧ PyData.depthAll (d :: ds) ≤ 60 ∧
  ∀ (i : Nat) v, xs[i]? = some v → (d :: ds)[i]? = some (PySem.W.minD d ds) → Q v H
theorem minDK (K : Frag) (hc : X.calm = true) (hu : X.A.units + 64 < cLine) (h : X.K = K := by rfl) : CallR X (.builtin "min") (rMinD K) := by
  subst h
  intro pins s σ H vs us Q I r h
  obtain ⟨a, xs, d, ds, rfl, hs, hD, ha, hdp, q⟩ := h
  obtain ⟨its, rv, hl, _⟩ := I.list hs
  rw [Vals.ref1 r]
  obtain ⟨as, hr⟩ := Dp.readsAll I (d :: ds) xs its hD rv
  refine PySem.W.min_list_data (vs := its.toArray) (I.ok.hd hc) hl.isList (show ReadsAll s.heap its.toArray.toList (d :: ds) as from hr) ha (by omega) fun i v h' tk bs hv r' hk => ?_
  have hv' : its[i]? = some v := by rw [← hv]; simp
  have hil : i < its.length := (List.getElem?_eq_some_iff.mp hv').1
  obtain ⟨x, hx⟩ : ∃ x, xs[i]? = some x := by
    have hlen := rv.length
    exact ⟨_, List.getElem?_eq_getElem (by omega)⟩
  obtain ⟨u, hu1, hu2⟩ := rv.get hx
  rw [hv'] at hu1
  injection hu1 with hu1
  subst hu1
  obtain ⟨cs, r1, hil2, hmem, _⟩ := PySem.W.readsAll_at hr i v hv'
  have hmin : PySem.W.minD d ds ∈ d :: ds := by
    unfold PySem.W.minD
    have key : ∀ (l : List PyData) (a : PyData), l.foldl (fun a y => if PySem.W.dataLt y a then y else a) a ∈ a :: l := fun l => by
      induction l with
      | nil => exact fun a => List.mem_cons_self
      | cons y l ih =>
        intro a
        rw [List.foldl_cons]
        have := ih (if PySem.W.dataLt y a then y else a)
        rcases List.mem_cons.mp this with h | h
        · rw [h]
          split
          · exact List.mem_cons_of_mem _ List.mem_cons_self
          · exact List.mem_cons_self
        · exact List.mem_cons_of_mem _ (List.mem_cons_of_mem _ h)
    exact key ds d
  have e : (d :: ds).getD i PyData.none = PySem.W.minD d ds := PySem.W.alike_unique _ _ v _ _ (ha.1 _ hmem _ hmin) (Reads.keeps hk r1) r'
  refine ⟨x, H, I.kept hk, hu2, q i x hx ?_⟩
  rw [← e, List.getD_eq_getElem?_getD, List.getElem?_eq_getElem hil2]
  rfl
end
/-! ### an order without ties -/
structure Lin (α : Type) [DecidableEq α] [PySem.W.DatumOrd α] : Prop where
  irr : ∀ a : α, PySem.W.DatumOrd.lt a a = false
  tr : ∀ a b c : α, PySem.W.DatumOrd.lt a b = true → PySem.W.DatumOrd.lt b c = true → PySem.W.DatumOrd.lt a c = true
  tot : ∀ a b : α, a ≠ b → PySem.W.DatumOrd.lt a b = true ∨ PySem.W.DatumOrd.lt b a = true
theorem lin_int : Lin Int := ⟨fun a => by show decide (a < a) = false; simp, fun a b c h1 h2 => by
  have h1 : decide (a < b) = true := h1
  have h2 : decide (b < c) = true := h2
  show decide (a < c) = true
  rw [decide_eq_true_eq] at *
  omega, fun a b h => by
  show decide (a < b) = true ∨ decide (b < a) = true
  rw [decide_eq_true_eq, decide_eq_true_eq]
  omega⟩
section
variable {α : Type} [DecidableEq α] [PySem.W.DatumOrd α]
theorem lex_irr (L : Lin α) : ∀ xs : List α, PySem.W.listLt xs xs = false
  | [] => rfl
  | x :: xs => by
    rw [PySem.W.listLt, if_pos rfl]
    exact lex_irr L xs
theorem lex_tr (L : Lin α) : ∀ xs ys zs : List α, PySem.W.listLt xs ys = true → PySem.W.listLt ys zs = true → PySem.W.listLt xs zs = true
  | [], [], _, h, _ => by cases h
  | [], _ :: _, [], _, h => by cases h
  | [], _ :: _, _ :: _, _, _ => rfl
  | _ :: _, [], _, h, _ => by cases h
  | _ :: _, _ :: _, [], _, h => by cases h
  | x :: xs, y :: ys, z :: zs, h1, h2 => by
    rw [PySem.W.listLt] at h1 h2 ⊢
    by_cases e1 : x = y
    · subst e1
      rw [if_pos rfl] at h1
      by_cases e2 : x = z
      · rw [if_pos e2] at h2 ⊢
        exact lex_tr L xs ys zs h1 h2
      · rw [if_neg e2] at h2 ⊢
        exact h2
    · rw [if_neg e1] at h1
      by_cases e2 : y = z
      · subst e2
        rw [if_neg e1]
        exact h1
      · rw [if_neg e2] at h2
        have h3 := L.tr x y z h1 h2
        by_cases e3 : x = z
        · subst e3
          rw [L.irr x] at h3
          cases h3
        · rw [if_neg e3]
          exact h3
theorem lex_tot (L : Lin α) : ∀ xs ys : List α, xs ≠ ys → PySem.W.listLt xs ys = true ∨ PySem.W.listLt ys xs = true
  | [], [], h => absurd rfl h
  | [], _ :: _, _ => .inl rfl
  | _ :: _, [], _ => .inr rfl
  | x :: xs, y :: ys, h => by
    rw [PySem.W.listLt, PySem.W.listLt]
    by_cases e : x = y
    · rw [if_pos e, if_pos e.symm]
      exact lex_tot L xs ys fun z => h (by rw [e, z])
    · rw [if_neg e, if_neg (Ne.symm e)]
      exact L.tot x y e
theorem lin_list (L : Lin α) : Lin (List α) := ⟨lex_irr L, lex_tr L, lex_tot L⟩
theorem minOf_mem : ∀ (xs : List α) (x : α), PySem.W.minOf x xs ∈ x :: xs
  | [], x => List.mem_cons_self
  | y :: xs, x => by
    have e : PySem.W.minOf x (y :: xs) = PySem.W.minOf (if PySem.W.DatumOrd.lt y x = true then y else x) xs := rfl
    rw [e]
    rcases List.mem_cons.mp (minOf_mem xs (if PySem.W.DatumOrd.lt y x = true then y else x)) with h | h
    · rw [h]
      split
      · exact List.mem_cons_of_mem _ List.mem_cons_self
      · exact List.mem_cons_self
    · exact List.mem_cons_of_mem _ (List.mem_cons_of_mem _ h)
theorem lin_nlt (L : Lin α) {a b c : α} (h1 : PySem.W.DatumOrd.lt b a = false) (h2 : PySem.W.DatumOrd.lt c b = false) : PySem.W.DatumOrd.lt c a = false := by
  by_cases e1 : a = b
  · rw [e1]; exact h2
  · by_cases e2 : b = c
    · rw [← e2]; exact h1
    · have h3 := (L.tot a b e1).resolve_right (by rw [h1]; decide)
      have h4 := (L.tot b c e2).resolve_right (by rw [h2]; decide)
      have h5 := L.tr a b c h3 h4
      cases h : PySem.W.DatumOrd.lt c a with
      | false => rfl
      | true =>
        have := L.tr a c a h5 h
        rw [L.irr a] at this
        cases this
theorem minOf_le (L : Lin α) : ∀ (xs : List α) (x : α), ∀ y ∈ x :: xs, PySem.W.DatumOrd.lt y (PySem.W.minOf x xs) = false
  | [], x, y, hy => by
    rw [List.mem_singleton.mp hy]
    exact L.irr x
  | z :: xs, x, y, hy => by
    have e : PySem.W.minOf x (z :: xs) = PySem.W.minOf (if PySem.W.DatumOrd.lt z x = true then z else x) xs := rfl
    rw [e]
    have ih := minOf_le L xs (if PySem.W.DatumOrd.lt z x = true then z else x)
    rcases List.mem_cons.mp hy with rfl | hy
    · have h1 := ih _ List.mem_cons_self
      refine lin_nlt L h1 ?_
      split
      · rename_i h
        cases h2 : PySem.W.DatumOrd.lt y z with
        | false => rfl
        | true =>
          have := L.tr _ _ _ h h2
          rw [L.irr] at this
          cases this
      · exact L.irr y
    · rcases List.mem_cons.mp hy with rfl | hy
      · have h1 := ih _ List.mem_cons_self
        refine lin_nlt L h1 ?_
        split
        · exact L.irr y
        · rename_i h
          simpa using h
      · exact ih y (List.mem_cons_of_mem _ hy)
theorem min_uniq (L : Lin α) {x x' : α} {xs xs' : List α} (h : ∀ y, y ∈ x :: xs ↔ y ∈ x' :: xs') : PySem.W.minOf x xs = PySem.W.minOf x' xs' := by
  have h1 := minOf_le L xs x _ ((h _).mpr (minOf_mem xs' x'))
  have h2 := minOf_le L xs' x' _ ((h _).mp (minOf_mem xs x))
  by_cases e : PySem.W.minOf x xs = PySem.W.minOf x' xs'
  · exact e
  · rcases L.tot _ _ e with z | z
    · rw [h2] at z; cases z
    · rw [h1] at z; cases z
theorem toD_inj {a b : α} (h : PySem.W.Datum.toD a = PySem.W.Datum.toD b) : a = b := by
  have h1 := PySem.W.Datum.eqv a b
  rw [h, PySem.W.Datum.eqv b b] at h1
  exact of_decide_eq_true (by rw [← h1]; simp)
end
abbrev Mat := List (List Int)
theorem lin_M : Lin Mat := lin_list (lin_list lin_int)
/-- the least of them, none of none -/
def minL : List Mat → Mat
  | [] => []
  | x :: xs => PySem.W.minOf x xs
theorem minL_mem {l : List Mat} (h : l ≠ []) : minL l ∈ l := by
  cases l with
  | nil => exact absurd rfl h
  | cons x xs => exact minOf_mem xs x
theorem minL_eq {l l' : List Mat} (h : ∀ y, y ∈ l ↔ y ∈ l') : minL l = minL l' := by
  cases l with
  | nil =>
    cases l' with
    | nil => rfl
    | cons x xs => exact absurd ((h x).mpr List.mem_cons_self) (by simp)
  | cons x xs =>
    cases l' with
    | nil => exact absurd ((h x).mp List.mem_cons_self) (by simp)
    | cons y ys => exact min_uniq lin_M h
section
variable {K : Frag} {σ : St} {H : Hp} {te : TE}
theorem dpAll_RM {H1 H2 : Hp} {M : Nat → Mat} : ∀ {vs : List V} {idx : List Nat}, Paired (fun v j => RM (M j) H1 H2 v) vs idx → DpAll K H2 vs (idx.map fun j => PySem.W.Datum.toD (M j))
  | _, _, .nil => .nil
  | _, _, .cons ⟨_, hv, hO⟩ t => by
    subst hv
    exact .cons hO.lli.dp (dpAll_RM t)
theorem er_minRM {idx : List Nat} {M : Nat → Mat} (h : Er te σ H (RLs idx fun i => RM (M i))) (hne : idx ≠ []) : Er (tCB (rMinD K) (tCons te tNil)) σ H (RM (minL (idx.map M))) := fun H1 e Q q =>
  h H1 e _ fun v H2 e2 ⟨p, vs, hv, hp, hp2, hP⟩ => by
    subst hv
    cases idx with
    | nil => exact absurd rfl hne
    | cons i0 idx =>
      have hmap : ∀ l : List Nat, (l.map fun j => (PySem.W.Datum.toD (M j) : PyData)) = (l.map M).map PySem.W.Datum.toD := fun l => by rw [List.map_map]; rfl
      have hD := dpAll_RM (K := K) hP
      rw [hmap] at hD
      refine ⟨p, vs, PySem.W.Datum.toD (M i0), (idx.map M).map PySem.W.Datum.toD, rfl, sq_of hp2, hD, ⟨fun x hx y hy => ?_, fun x hx => ?_⟩, ?_, fun i v hvi hdi => ?_⟩
      · obtain ⟨x, _, rfl⟩ := List.mem_map.mp (show x ∈ (M i0 :: idx.map M).map PySem.W.Datum.toD from hx)
        obtain ⟨y, _, rfl⟩ := List.mem_map.mp (show y ∈ (M i0 :: idx.map M).map PySem.W.Datum.toD from hy)
        exact PySem.W.DatumOrd.alike x y
      · obtain ⟨x, _, rfl⟩ := List.mem_map.mp (show x ∈ (M i0 :: idx.map M).map PySem.W.Datum.toD from hx)
        exact PySem.W.DatumOrd.notNone x
      · exact Nat.le_trans (PySem.W.depthAll_map (M i0 :: idx.map M)) (by decide)
      · obtain ⟨j, hj1, hj2⟩ := paired_getL hP hvi
        rw [PySem.W.minD_map] at hdi
        have h3 : ((M i0 :: idx.map M).map PySem.W.Datum.toD)[i]? = some (PySem.W.Datum.toD (PySem.W.minOf (M i0) (idx.map M))) := hdi
        rw [← List.map_cons, List.getElem?_map, List.getElem?_map, hj1] at h3
        have h4 : PySem.W.Datum.toD (M j) = PySem.W.Datum.toD (PySem.W.minOf (M i0) (idx.map M)) := Option.some.inj h3
        have h5 : M j = minL ((i0 :: idx).map M) := toD_inj h4
        refine q v H2 e2 ?_
        rw [← h5]
        exact hj2
end
end AT

/-! ## // of any size; [.. for x, y in zip(a, b)]; rows put in their place -/
namespace AT
open PySem PySem.Spec PyProof.Rows L2 Evl
def CFdX (_ j : Int) : Prop := j ≠ 0 ∧ j.natAbs.log2 < 9000
theorem op_fdivX {X : Cx} : OpR X (binaryOp .FloorDiv) (rI CFdX fun i j => .int (i.fdiv j)) := opI fun _ _ _ _ _ _ _ hc q => floordiv_int hc.1 q (.inl (PyProof.noPylong_of_log2 hc.2))
section
variable {K : Frag} {σ : St} {H H0 : Hp} {te ta tb : TE} {a b p : Addr} {D : Ends} {tz : TS}
theorem el_lcZ {tA : TA} {i1 i2 : Nat} {vs : List Nat} {xs ys : List V} (v : Nat → V) (h : EvA tA σ H [.ref a, .ref b]) (ha : SqL K H a xs) (hb : SqL K H b ys) (hl : xs.length = ys.length) (hz : xs.length ≤ 40000)
    (hw : ∀ x y, wipe (((wipe σ vs).set i1 (some x)).set i2 (some y)) vs = wipe σ vs)
    (he : ∀ (i : Nat) x y H1, Ex H H1 → xs[i]? = some x → ys[i]? = some y → Ev te (((wipe σ vs).set i1 (some x)).set i2 (some y)) H1 (v i)) :
    EvL (tLc (iZip K tA) (gTup K 2 (gCons (gName i1) (gCons (gName i2) gNil))) tYes te vs) σ H (given xs.length (fun _ => true) v) := fun H0 e Q q => h H0 e _ fun H1 e1 =>
  ⟨a, b, xs, ys, rfl, ex_l (e.trans e1) ha, ex_l (e.trans e1) hb, fun Dl hD =>
    lc_it (walk_zip (xs := xs) (ys := ys) (n := xs.length) (by omega)) (Cw H1 (fun _ => true) v Dl) ⟨hD, Ex.new hD, upd_same⟩ (fun i H' _ p => ⟨ex_l ((e.trans e1).trans p.2.1) ha, ex_l ((e.trans e1).trans p.2.1) hb⟩)
      (fun i z H' H'' hi p ⟨T, x, y, hz', hT, hH, hx, hy⟩ => by
        subst hz'; subst hH
        have eT : Ex H' (upd H' T (.tup [x, y])) := Ex.new hT
        refine ⟨T, [x, y], rfl, st_of upd_same, rfl, x, [y], rfl, y, [], rfl, rfl, hw x y, ?_⟩
        exact cw_turn (f := fun _ => true) ⟨p.1, p.2.1.trans eT, eT _ _ p.2.2⟩ (by omega) (fun G1 g1 Q' q' => q' G1 (Ex.refl _)) fun _ => he i x y H1 (e.trans e1) hx hy)
      (fun H' p => q Dl H' (fresh_back e1 p.1) (e1.trans p.2.1) p.2.2)⟩
theorem given_all (n : Nat) (w : Nat → Int) : given n (fun _ => true) (fun j => .int (w j)) = ((List.range n).map w).map V.int := by
  unfold given
  rw [filt_all, List.map_map]
  rfl
/-- rows of our own list: each may stand anywhere, but not in the list's place -/
def RA (H0 H : Hp) (p : Addr) (M : List (List Int)) : Prop := H0 p = none ∧ ∃ as : List Addr, H p = some (.lst (as.map V.ref)) ∧ p ∉ as ∧ Paired (fun x r => H x = some (.lst (r.map V.int))) as M
theorem RA.mono {H' : Hp} {M : List (List Int)} (e : Ex H H') (h : RA H0 H p M) : RA H0 H' p M := by
  obtain ⟨h0, as, h1, h2, h3⟩ := h
  exact ⟨h0, as, e _ _ h1, h2, paired_mono h3 fun x r z => e _ _ z⟩
theorem RA.lli {M : List (List Int)} (h : RA H0 H p M) : LLI K H p M := by
  obtain ⟨h0, as, h1, h2, h3⟩ := h
  exact ⟨as, sq_of h1, paired_mono h3 fun x r z => sq_of z⟩
theorem OLLI.ra {M : List (List Int)} (h : OLLI H0 H p M) : RA H0 H p M := by
  obtain ⟨as, h1, h2, h3, h4⟩ := h
  rw [List.nodup_cons] at h3
  exact ⟨h1, as, h2, h3.1, paired_mono h4 fun x r z => z.2⟩
theorem paired_put {α β : Type} {F : α → β → Prop} : ∀ {l₁ : List α} {l₂ : List β} {i : Nat} {x : α} {y : β}, Paired F l₁ l₂ → F x y → Paired F (l₁.set i x) (l₂.set i y)
  | _, _, _, _, _, .nil, _ => .nil
  | _, _, 0, _, _, .cons _ t, h => .cons h t
  | _, _, i + 1, _, _, .cons r t, h => .cons r (paired_put t h)
/-- p[i] = a list of ints -/
theorem RA.put {M : List (List Int)} {i : Nat} (h : RA H0 H p M) : ∃ vs : List V, H p = some (.lst vs) ∧ vs.length = M.length ∧ ∀ H1 r row, Ex H H1 → H1 r = some (.lst (row.map V.int)) → r ≠ p → RA H0 (upd H1 p (.lst (vs.set i (.ref r)))) p (M.set i row) := by
  obtain ⟨h0, as, h1, h2, h3⟩ := h
  refine ⟨as.map V.ref, h1, by rw [List.length_map, h3.length], fun H1 r row e hr hne => ⟨h0, as.set i r, by rw [upd_same, List.map_set], ?_, ?_⟩⟩
  · intro hm
    rcases List.mem_or_eq_of_mem_set hm with hm | hm
    · exact h2 hm
    · exact hne hm.symm
  · have h4 : Paired (fun x r => H1 x = some (.lst (r.map V.int))) (as.set i r) (M.set i row) := paired_put (paired_mono h3 fun x r z => e _ _ z) hr
    refine paired_mem_mono h4 fun x r' hx z => ?_
    rw [upd_ne]
    · exact z
    · intro hxp
      subst hxp
      rcases List.mem_or_eq_of_mem_set hx with hm | hm
      · exact h2 hm
      · exact hne hm.symm
theorem s_setRow {M : List (List Int)} {i : Nat} {row : List Int} (h : RA H0 H p M) (he : EvL te σ H (row.map V.int)) (ho : Ev ta σ H (.ref p)) (hi : Ev tb σ H (.int (i : Int))) (hin : i < M.length) (e0 : Ex H0 H)
    (k : ∀ H1, Ex H0 H1 → RA H0 H1 p (M.set i row) → D.nx σ H1) : tAsg te (gSub ta tb rSetL) D σ H := by
  obtain ⟨vs, h1, h2, h3⟩ := h.put (i := i)
  refine he H (Ex.refl H) _ fun r H1 hr e1 hr1 => ho H1 e1 _ fun H2 e2 => hi H2 (e1.trans e2) _ fun H3 e3 => ?_
  have hne : r ≠ p := fun z => by
    subst z
    rw [h1] at hr
    cases hr
  exact ⟨p, vs, (i : Int), i, rfl, rfl, ((e1.trans e2).trans e3) p _ h1, ixN_nat (by omega), k _ (Ex.mut (((e0.trans e1).trans e2).trans e3) h.1) (h3 _ _ _ ((e1.trans e2).trans e3) ((e2.trans e3) _ _ hr1) hne)⟩
/-- p[i] = r, a row that stands -/
theorem q_setRef {M : List (List Int)} {i : Nat} {r : Addr} {row : List Int} (h : RA H0 H p M) (he : Ev te σ H (.ref r)) (hr : H r = some (.lst (row.map V.int))) (hne : r ≠ p) (ho : Ev ta σ H (.ref p)) (hi : Ev tb σ H (.int (i : Int))) (hin : i < M.length) (e0 : Ex H0 H)
    (k : ∀ H1, Ex H0 H1 → RA H0 H1 p (M.set i row) → (∀ (x : Addr) o, x ≠ p → H x = some o → H1 x = some o) → tz D σ H1) : tSeq (tAsg te (gSub ta tb rSetL)) tz D σ H := by
  obtain ⟨vs, h1, h2, h3⟩ := h.put (i := i)
  refine he H (Ex.refl H) _ fun H1 e1 => ho H1 e1 _ fun H2 e2 => hi H2 (e1.trans e2) _ fun H3 e3 => ?_
  exact ⟨p, vs, (i : Int), i, rfl, rfl, ((e1.trans e2).trans e3) p _ h1, ixN_nat (by omega), k _ (Ex.mut (((e0.trans e1).trans e2).trans e3) h.1) (h3 _ _ _ ((e1.trans e2).trans e3) (((e1.trans e2).trans e3) _ _ hr) hne) fun x o hx hH => by
    rw [upd_ne hx]
    exact ((e1.trans e2).trans e3) _ _ hH⟩
end
end AT

/-! ## a op b op c op d; sorted of data; in, not in, index of data -/
theorem L2.Room.units65 {k : Nat} {A : PySem.Around} (r : L2.Room k A) : A.units + 65 < PySem.cLine := by have := r.un; omega
namespace AT
open PySem PySem.Spec PyProof.Rows L2 Evl
section
variable {X : Cx} {a b c d : Expr} {ta tb tc td : TE} {pos : Pos}
def tChain3 (r r' r'' : R2) (ta tb tc td : TE) : TE := fun σ H Q => ta σ H fun x H1 => tb σ H1 fun y H2 => r x y H2 fun z H3 => ∃ k, z = .bl k ∧
  (if k = true then tc σ H3 fun w' H4 => r' y w' H4 fun z' H5 => ∃ k', z' = .bl k' ∧ (if k' = true then td σ H5 fun u' H6 => r'' w' u' H6 Q else Q (.bl false) H5) else Q (.bl false) H3)
theorem pe_chain3 {op op' op'' : CmpOp} {r r' r'' : R2} (ho : OpR X (compareOp op) r) (ho' : OpR X (compareOp op') r') (ho'' : OpR X (compareOp op'') r'') (ha : PE X a ta) (hb : PE X b tb) (hc : PE X c tc) (hd : PE X d td)
    (hm : lastMarks [op, op', op''] [b, c, d] = false := by with_unfolding_all rfl) : PE X (.Compare a [op, op', op''] [b, c, d] pos) (tChain3 r r' r'' ta tb tc td) := by
  refine ⟨fun pins s σ H Q I h => ?_⟩
  refine Compare_chain (thn (ha.run pins s σ H _ I h) fun v s1 ⟨x, H1, I1, r1, q1⟩ => chain_link (thn (hb.run pins s1 σ H1 _ I1 q1) fun u s2 ⟨y, H2, I2, r2, q2⟩ =>
    thn (ho pins s2 σ H2 x y v u _ I2 r1 r2 q2) fun d' s3 ⟨z, H3, I3, r3, k, e, q3⟩ => ?_)) hm
  subst e
  cases r3
  refine wpAny_truthy_bool ?_
  cases k with
  | false => exact ite_ff ⟨.bl false, H3, I3, rfl, q3⟩
  | true =>
    refine ite_tt (chain_link (thn (hc.run pins s3 σ H3 _ I3 q3) fun w' s4 ⟨z', H4, I4, r4, q4⟩ => thn (ho' pins s4 σ H4 y z' u w' _ I4 r2 r4 q4) fun d2 s5 ⟨z2, H5, I5, r5, k2, e2, q5⟩ => ?_))
    subst e2
    cases r5
    refine wpAny_truthy_bool ?_
    cases k2 with
    | false => exact ite_ff ⟨.bl false, H5, I5, rfl, q5⟩
    | true => exact ite_tt (chain_last (thn (hd.run pins s5 σ H5 _ I5 q5) fun w2 s6 ⟨z3, H6, I6, r6, q6⟩ => ho'' pins s6 σ H6 z' z3 w' w2 Q I6 r4 r6 q6))
theorem inDK (K : Frag) (hu : X.A.units + 65 < cLine) (h : X.K = K := by rfl) : OpR X (compareOp .In) (rInD K) := by subst h; exact op_inD hu
theorem ninDK (K : Frag) (hu : X.A.units + 65 < cLine) (h : X.K = K := by rfl) : OpR X (compareOp .NotIn) (rNotInD K) := by subst h; exact op_notInD hu
theorem mt_indexDK (K : Frag) (hu : X.A.units + 65 < cLine) (h : X.K = K := by rfl) : MtR X "list.index" (rIndexD K) := by subst h; exact mt_indexD hu
/-- sorted(xs) of data: the same items in order -/
def rSortedD (K : Frag) : List V → Hp → VK → Prop := fun vs H Q => ∃ (a : Addr) (bs : List (V × PyData)), vs = [V.ref a] ∧ SqL K H a (bs.map (·.1)) ∧ DpAll K H (bs.map (·.1)) (bs.map (·.2)) ∧ PySem.W.AllAlike (bs.map (·.2)) ∧ PySem.W.Sortable (bs.map (·.2)) ∧
  bs.length ≤ 100000 ∧ (∀ b, b ∈ bs → b.2.depth ≤ 60) ∧ ∀ p, H p = none → Q (.ref p) (upd H p (.lst ((bs.mergeSort (PySem.W.dataLe false (·.2))).map (·.1))))
theorem each_vals : ∀ {bs : List (V × PyData)} {us : List Value}, Vals (bs.map (·.1)) us → PySem.W.EachIs (fun v (b : V × PyData) => RelV b.1 v) us bs
  | [], _, h => by cases h; exact .nil
  | b :: bs, _, h => by
    cases h with
    | cons r t => exact .cons r (each_vals t)
theorem vals_each : ∀ {bs : List (V × PyData)} {us : List Value}, PySem.W.EachIs (fun v (b : V × PyData) => RelV b.1 v) us bs → Vals (bs.map (·.1)) us
  | [], _, h => by cases h; exact .nil
  | b :: bs, _, h => by
    cases h with
    | cons r t => exact .cons r (vals_each t)
theorem each_reads {h : Heap} : ∀ {bs : List (V × PyData)} {us : List Value} {as : List Addr}, ReadsAll h us (bs.map (·.2)) as → PySem.W.EachIs (fun v (b : V × PyData) => ∃ as, Reads h v b.2 as) us bs
  | [], _, _, h => by cases h; exact .nil
  | b :: bs, _, _, h => by
    cases h with
    | cons r t => exact .cons ⟨_, r⟩ (each_reads t)
theorem sortedDK (K : Frag) (hu : X.A.units + 64 < cLine) (h : X.K = K := by rfl) : CallR X (.builtin "sorted") (rSortedD K) := by
  subst h
  intro pins s σ H vs us Q I r h
  obtain ⟨a, bs, rfl, hs, hD, hal, hk, hl0, hdp, q⟩ := h
  obtain ⟨its, rv, hl, _⟩ := I.list hs
  rw [Vals.ref1 r]
  obtain ⟨as, hr⟩ := Dp.readsAll I (bs.map (·.2)) _ its hD rv
  refine PySem.W.sorted_data (vs := its) (bs := bs) (enc := fun b => b.2) (R := fun v b => RelV b.1 v) hl.isList (each_vals rv) (each_reads hr) hal hk (Nat.le_trans hl0 (by decide)) (fun b hb => by have := hdp b hb; omega) fun out hlen hout => ?_
  obtain ⟨ep, he'⟩ := PyProof.Rows.sortedAll_at s.heap its out.toArray
  have hlen2 : ((bs.mergeSort (PySem.W.dataLe false (·.2))).map (·.1)).length ≤ sizeLine := by rw [List.length_map, List.length_mergeSort]; exact Nat.le_trans hl0 (by decide)
  exact ⟨.ref _, upd H (s.heap.objs.size + 1) (.lst ((bs.mergeSort (PySem.W.dataLe false (·.2))).map (·.1))), I.laid (t' := s.toks) (fun _ _ => PyProof.Rows.sortedAll_old) (Nat.le_succ _) ⟨hlen2, out, ep, vals_each hout, he'⟩, rfl, q _ (I.hok.fresh (Nat.le_succ _))⟩
end
end AT

/-! ## lists of pairs of ints -/
namespace AT
open PySem PySem.Spec PyProof.Rows L2 Evl
abbrev Ln := Int × Int
def ltP (p q : Ln) : Bool := PySem.W.DatumOrd.lt p q
def PT (K : Frag) (H : Hp) (x : Addr) (p : Ln) : Prop := SqT K H x [V.int p.1, V.int p.2]
def LP (K : Frag) (H : Hp) (a : Addr) (ls : List Ln) : Prop := ∃ as : List Addr, SqL K H a (as.map V.ref) ∧ Paired (fun x p => PT K H x p) as ls
/-- a new list of them -/
def OLP (K : Frag) (H0 H : Hp) (a : Addr) (ls : List Ln) : Prop := H0 a = none ∧ ∃ as : List Addr, H a = some (.lst (as.map V.ref)) ∧ Paired (fun x p => PT K H x p) as ls
def RLP (K : Frag) (ls : List Ln) : R3 := fun H1 H2 v => ∃ p, v = .ref p ∧ OLP K H1 H2 p ls
theorem idx_firstG {α : Type} [BEq α] [LawfulBEq α] : ∀ {xs : List α} {k z : α} {m : Nat}, m < xs.idxOf k → xs[m]? = some z → z ≠ k
  | [], _, _, _, _, hz => by simp at hz
  | x :: xs, k, z, m, hm, hz => by
    rw [List.idxOf_cons] at hm
    by_cases e : x = k
    · subst e
      simp at hm
    · have e2 : (x == k) = false := by simpa using e
      rw [e2] at hm
      cases m with
      | zero =>
        have : x = z := by simpa using hz
        rw [← this]
        exact e
      | succ m => exact idx_firstG (xs := xs) (m := m) (by simpa using hm) (by simpa using hz)
section
variable {K : Frag} {H H0 H1 H2 : Hp} {σ : St} {a x y : Addr} {p q : Ln} {ls : List Ln} {ta tb te : TE}
theorem PT.mono (e : Ex H H1) (h : PT K H x p) : PT K H1 x p := ex_t e h
theorem LP.mono (e : Ex H H1) (h : LP K H a ls) : LP K H1 a ls := by
  obtain ⟨as, h1, h2⟩ := h
  exact ⟨as, ex_l e h1, paired_mono h2 fun _ _ z => z.mono e⟩
theorem OLP.lp (h : OLP K H0 H a ls) : LP K H a ls := by
  obtain ⟨_, as, h1, h2⟩ := h
  exact ⟨as, sq_of h1, h2⟩
theorem OLP.mono (e : Ex H H1) (h : OLP K H0 H a ls) : OLP K H0 H1 a ls := by
  obtain ⟨h0, as, h1, h2⟩ := h
  exact ⟨h0, as, e _ _ h1, paired_mono h2 fun _ _ z => z.mono e⟩
theorem OLP.back (e : Ex H0 H1) (h : OLP K H1 H a ls) : OLP K H0 H a ls := ⟨fresh_back e h.1, h.2⟩
theorem mon_RLP {ls : List Ln} : Mon (RLP K ls) := ⟨fun e ⟨p, h, q⟩ => ⟨p, h, q.mono e⟩, fun e ⟨p, h, q⟩ => ⟨p, h, q.back e⟩⟩
theorem PT.dp (h : PT K H x p) : Dp K H (.ref x) (PySem.W.Datum.toD p) := .tup h (.cons (.int _) (.cons (.int _) .nil))
theorem dpAll_lines : ∀ {as : List Addr} {ls : List Ln}, Paired (fun x p => PT K H x p) as ls → DpAll K H (as.map V.ref) (ls.map PySem.W.Datum.toD)
  | _, _, .nil => .nil
  | _, _, .cons r t => .cons r.dp (dpAll_lines t)
theorem LP.dp (h : LP K H a ls) : Dp K H (.ref a) (.list (ls.map PySem.W.Datum.toD)) := by
  obtain ⟨as, h1, h2⟩ := h
  exact .lst h1 (dpAll_lines h2)
theorem LP.len (h : LP K H a ls) : ∃ as : List Addr, SqL K H a (as.map V.ref) ∧ as.length = ls.length := by
  obtain ⟨as, h1, h2⟩ := h
  exact ⟨as, h1, h2.length⟩
theorem ev_lenLP (ha : Ev ta σ H (.ref a)) (h : LP K H a ls) : Ev (tCB (rLenS K) (tCons ta tNil)) σ H (.int (ls.length : Int)) := by
  obtain ⟨as, h1, h2⟩ := h.len
  have := ev_len (K := K) ha h1
  rw [List.length_map, h2] at this
  exact this
theorem LP.at {i : Nat} (h : LP K H a ls) (hp : ls[i]? = some p) : ∃ x, RV (rIxL K) (.ref a) (.int (i : Int)) H (.ref x) ∧ PT K H x p := by
  obtain ⟨as, h1, h2⟩ := h
  obtain ⟨x, hx, hq⟩ := paired_get h2 hp
  exact ⟨x, rv_ixL h1 (atI_n (by rw [List.getElem?_map, hx]; rfl)), hq⟩
theorem ev_p1 (ha : Ev ta σ H (.ref x)) (hb : Ev tb σ H (.int 0)) (h : PT K H x p) : Ev (tOp (rIxT K) ta tb) σ H (.int p.1) := ev_op ha hb (rv_ixT h rfl)
theorem ev_p2 (ha : Ev ta σ H (.ref x)) (hb : Ev tb σ H (.int 1)) (h : PT K H x p) : Ev (tOp (rIxT K) ta tb) σ H (.int p.2) := ev_op ha hb (rv_ixT h rfl)
theorem canLay_lines : ∀ ls : List Ln, PyData.canLayAll0 (ls.map PySem.W.Datum.toD) = true
  | [] => by simp [PyData.canLayAll0]
  | p :: ls => by
    have h : PyData.canLay0 (PySem.W.Datum.toD p) = true := by
      show PyData.canLay0 (.tuple [.int p.1, .int p.2]) = true
      simp [PyData.canLay0, PyData.canLayAll0]
    simp only [List.map_cons, PyData.canLayAll0, h, canLay_lines ls, Bool.and_self]
theorem shaped_P (p : Ln) : SeqAt.shaped (PySem.W.Datum.toD p) = true := by
  show SeqAt.shaped (.tuple [.int p.1, .int p.2]) = true
  unfold SeqAt.shaped
  rw [Bool.and_eq_true]
  exact ⟨by simp [PyData.canLay0, PyData.canLayAll0], decide_eq_true (by simp [PyData.depth, PyData.depthAll])⟩
theorem shaped_LP (ls : List Ln) : SeqAt.shaped (.list (ls.map PySem.W.Datum.toD)) = true := by
  unfold SeqAt.shaped
  rw [Bool.and_eq_true]
  have h2 : PyData.depthAll (ls.map (PySem.W.Datum.toD : Ln → PyData)) ≤ 1 := PySem.W.depthAll_map ls
  refine ⟨by simp only [PyData.canLay0]; exact canLay_lines ls, decide_eq_true ?_⟩
  simp only [PyData.depth]
  omega
theorem rv_eqP (hx : PT K H x p) (hy : PT K H y q) : RV (rEqD K) (.ref x) (.ref y) H (.bl (decide (p = q))) := fun G g Q k =>
  ⟨_, _, (hx.mono g).dp, (hy.mono g).dp, shaped_P p, shaped_P q, by rw [PySem.W.Datum.eqv]; exact k G (Ex.refl _)⟩
theorem rv_neP (hx : PT K H x p) (hy : PT K H y q) : RV (rNeD K) (.ref x) (.ref y) H (.bl (!decide (p = q))) := fun G g Q k =>
  ⟨_, _, (hx.mono g).dp, (hy.mono g).dp, shaped_P p, shaped_P q, by rw [PySem.W.Datum.eqv]; exact k G (Ex.refl _)⟩
theorem rv_geP (hx : PT K H x p) (hy : PT K H y q) : RV (rGeD K) (.ref x) (.ref y) H (.bl (!ltP p q)) := rv_geD (a := p) (b := q) (fun G g => (hx.mono g).dp) (fun G g => (hy.mono g).dp) (by decide)
theorem any_lines (p : Ln) : ∀ ls : List Ln, ((ls.map PySem.W.Datum.toD).any fun z => PyData.eqv z (PySem.W.Datum.toD p)) = decide (p ∈ ls)
  | [] => by simp
  | q :: ls => by
    rw [List.map_cons, List.any_cons, any_lines p ls, PySem.W.Datum.eqv]
    by_cases h : q = p
    · subst h; simp
    · have : ¬ p = q := fun z => h z.symm
      simp [h, this]
theorem rv_inP (hx : PT K H x p) (ha : LP K H a ls) : RV (rInD K) (.ref x) (.ref a) H (.bl (decide (p ∈ ls))) := fun G g Q k =>
  ⟨_, _, (hx.mono g).dp, (ha.mono g).dp, shaped_P p, shaped_LP ls, by rw [any_lines]; exact k G (Ex.refl _)⟩
theorem rv_ninP (hx : PT K H x p) (ha : LP K H a ls) : RV (rNotInD K) (.ref x) (.ref a) H (.bl (!decide (p ∈ ls))) := fun G g Q k =>
  ⟨_, _, (hx.mono g).dp, (ha.mono g).dp, shaped_P p, shaped_LP ls, by rw [any_lines]; exact k G (Ex.refl _)⟩
theorem rv_eqLP {b : Addr} {ms : List Ln} (ha : LP K H a ls) (hb : LP K H b ms) : RV (rEqD K) (.ref a) (.ref b) H (.bl (decide (ls = ms))) := fun G g Q k =>
  ⟨_, _, (ha.mono g).dp, (hb.mono g).dp, shaped_LP ls, shaped_LP ms, by
    have := PySem.W.Datum.eqv ls ms
    have e : PyData.eqv (.list (ls.map PySem.W.Datum.toD)) (.list (ms.map PySem.W.Datum.toD)) = decide (ls = ms) := this
    rw [e]; exact k G (Ex.refl _)⟩
theorem rv_neLP {b : Addr} {ms : List Ln} (ha : LP K H a ls) (hb : LP K H b ms) : RV (rNeD K) (.ref a) (.ref b) H (.bl (!decide (ls = ms))) := fun G g Q k =>
  ⟨_, _, (ha.mono g).dp, (hb.mono g).dp, shaped_LP ls, shaped_LP ms, by
    have := PySem.W.Datum.eqv ls ms
    have e : PyData.eqv (.list (ls.map PySem.W.Datum.toD)) (.list (ms.map PySem.W.Datum.toD)) = decide (ls = ms) := this
    rw [e]; exact k G (Ex.refl _)⟩
/-- ls.index(p) -/
theorem ev_indexP (ha : Ev ta σ H (.ref a)) (hb : Ev tb σ H (.ref x)) (hL : LP K H a ls) (hx : PT K H x p) (hm : p ∈ ls) : Ev (tBM K "list" (rIndexD K) ta (tCons tb tNil)) σ H (.int ((ls.idxOf p : Nat) : Int)) := fun G g Q k =>
  ha G g _ fun G2 g2 => by
    obtain ⟨as, h1, _⟩ := id hL
    refine ⟨.inl ⟨rfl, _, ex_l (g.trans g2) h1⟩, hb G2 (g.trans g2) _ fun G3 g3 => ?_⟩
    have hl := List.idxOf_lt_length_iff.mpr hm
    refine ⟨a, .ref x, _, _, ls.idxOf p, PySem.W.Datum.toD p, rfl, rfl, (hL.mono ((g.trans g2).trans g3)).dp, (hx.mono ((g.trans g2).trans g3)).dp, shaped_LP ls, shaped_P p, ?_, ?_, fun m z' hm' hz => ?_, k G3 (g2.trans g3)⟩
    · rw [List.getElem?_map, List.getElem?_eq_getElem hl, List.getElem_idxOf]
      rfl
    · rw [PySem.W.Datum.eqv]; simp
    · rw [List.getElem?_map] at hz
      cases hq : ls[m]? with
      | none => rw [hq] at hz; cases hz
      | some q =>
        rw [hq] at hz
        cases hz
        rw [PySem.W.Datum.eqv]
        refine decide_eq_false fun e => ?_
        exact idx_firstG hm' hq e
end
/-! ### in order -/
def leP (p q : Ln) : Bool := !ltP q p
def sortP (ls : List Ln) : List Ln := ls.mergeSort leP
section
variable {K : Frag} {H H1 : Hp} {σ : St} {a : Addr} {ls : List Ln} {te : TE}
theorem zip_of : ∀ {as : List Addr} {ls : List Ln}, as.length = ls.length → as = (as.zip ls).map (·.1) ∧ ls = (as.zip ls).map (·.2)
  | [], [], _ => ⟨rfl, rfl⟩
  | [], _ :: _, h => by simp at h
  | _ :: _, [], h => by simp at h
  | x :: as, p :: ls, h => by
    obtain ⟨h1, h2⟩ := zip_of (as := as) (ls := ls) (by simpa using h)
    exact ⟨by rw [List.zip_cons_cons, List.map_cons, ← h1], by rw [List.zip_cons_cons, List.map_cons, ← h2]⟩
theorem paired_zip {F : Addr → Ln → Prop} : ∀ {as : List Addr} {ls : List Ln}, Paired F as ls → ∀ z ∈ as.zip ls, F z.1 z.2
  | _, _, .nil, z, h => by simp at h
  | _, _, .cons r t, z, h => by
    rw [List.zip_cons_cons] at h
    rcases List.mem_cons.mp h with rfl | h
    · exact r
    · exact paired_zip t z h
theorem paired_of_zip {F : Addr → Ln → Prop} : ∀ {zs : List (Addr × Ln)}, (∀ z ∈ zs, F z.1 z.2) → Paired F (zs.map (·.1)) (zs.map (·.2))
  | [], _ => .nil
  | z :: zs, h => .cons (h z List.mem_cons_self) (paired_of_zip fun y hy => h y (List.mem_cons_of_mem _ hy))
theorem er_sortedP {R : R3} (h : Er te σ H R) (hR : ∀ G1 G2 v, R G1 G2 v → ∃ b, v = .ref b ∧ LP K G2 b ls) (hl : ls.length ≤ 10000) : Er (tCB (rSortedD K) (tCons te tNil)) σ H (RLP K (sortP ls)) := fun H1 e Q q =>
  h H1 e _ fun v H2 e2 hv => by
    obtain ⟨b, rfl, as, h1, h2⟩ := hR H1 H2 v hv
    obtain ⟨z1, z2⟩ := zip_of h2.length
    have hz := paired_zip h2
    generalize as.zip ls = zs at *
    subst z1; subst z2
    let f : Addr × Ln → V × PyData := fun z => (V.ref z.1, PySem.W.Datum.toD z.2)
    have e1 : (zs.map f).map (·.1) = (zs.map (·.1)).map V.ref := by rw [List.map_map, List.map_map]; rfl
    have e3 : (zs.map f).map (·.2) = (zs.map (·.2)).map PySem.W.Datum.toD := by rw [List.map_map, List.map_map]; rfl
    refine ⟨b, zs.map f, rfl, by rw [e1]; exact h1, by rw [e1, e3]; exact dpAll_lines h2, ?_, ?_, by simpa using Nat.le_trans hl (by decide), fun b hb => ?_, fun p hp => ?_⟩
    · rw [e3]
      exact PySem.W.AllAlike.of fun a b => PySem.W.DatumOrd.alike a b
    · rw [e3]
      exact PySem.W.Sortable.tuples fun b => ⟨_, _, rfl⟩
    · obtain ⟨z, _, rfl⟩ := List.mem_map.mp hb
      exact Nat.le_trans (PySem.W.Datum.depth_le z.2) (by decide)
    · have hle : ∀ y z : Addr × Ln, leP y.2 z.2 = PySem.W.dataLe false (fun b : V × PyData => b.2) (f y) (f z) := fun y z => by
        rw [PySem.W.dataLe_eq]
        show (!ltP z.2 y.2) = (!PySem.W.dataLt (PySem.W.Datum.toD z.2) (PySem.W.Datum.toD y.2))
        rw [PySem.W.DatumOrd.lt_eq]
        rfl
      have hm : (zs.map f).mergeSort (PySem.W.dataLe false (·.2)) = (zs.mergeSort fun y z => leP y.2 z.2).map f := (List.map_mergeSort fun y _ z _ => hle y z).symm
      have hs : sortP (zs.map (·.2)) = (zs.mergeSort fun y z => leP y.2 z.2).map (·.2) := by
        unfold sortP
        exact (List.map_mergeSort (f := fun (z : Addr × Ln) => z.2) (r := fun (y z : Addr × Ln) => leP y.2 z.2) (s := leP) (l := zs) fun y _ z _ => rfl).symm
      refine q _ _ (e2.trans (Ex.new hp)) ⟨p, rfl, fresh_back e2 hp, (zs.mergeSort fun y z => leP y.2 z.2).map (·.1), by rw [upd_same, hm, List.map_map, List.map_map]; rfl, ?_⟩
      rw [hs]
      exact paired_of_zip fun z hz' => (hz z (List.mem_mergeSort.mp hz')).mono (Ex.new hp)
end
end AT

/-! ## the text of this law -/
namespace AT
open PySem PySem.Spec PyProof.Rows L2 Evl
def topS (i : Nat) : Stmt := PySem.Challenge.pw_arrowturns_k13_cuts_and_their_forms.main.body.getD i (.Pass ⟨0, 0, 0, 0⟩)
abbrev s_line_right : Stmt := topS 9
abbrev N_line_right : List Str := ["corners", "line", "one", "other"]
theorem sc_line_right : FnScope N_line_right ["corners", "line"] (defScope s_line_right) := ⟨rfl, rfl, rfl, by decide +kernel, rfl, by decide +kernel, by decide +kernel⟩
abbrev s_crossing : Stmt := topS 10
abbrev N_crossing : List Str := ["line", "other"]
theorem sc_crossing : FnScope N_crossing ["line", "other"] (defScope s_crossing) := ⟨rfl, rfl, rfl, by decide +kernel, rfl, by decide +kernel, by decide +kernel⟩
abbrev s_is_cut : Stmt := topS 11
abbrev N_is_cut : List Str := ["corners", "lines", "k", "j"]
theorem sc_is_cut : FnScope N_is_cut ["corners", "lines"] (defScope s_is_cut) := ⟨rfl, rfl, rfl, by decide +kernel, rfl, by decide +kernel, by decide +kernel⟩
abbrev s_must_cut : Stmt := topS 12
abbrev N_must_cut : List Str := ["corners", "lines"]
theorem sc_must_cut : FnScope N_must_cut ["corners", "lines"] (defScope s_must_cut) := ⟨rfl, rfl, rfl, by decide +kernel, rfl, by decide +kernel, by decide +kernel⟩
abbrev s_is_side : Stmt := topS 13
abbrev N_is_side : List Str := ["corners", "lines", "one", "other"]
theorem sc_is_side : FnScope N_is_side ["corners", "lines", "one", "other"] (defScope s_is_side) := ⟨rfl, rfl, rfl, by decide +kernel, rfl, by decide +kernel, by decide +kernel⟩
abbrev s_triangles : Stmt := topS 14
abbrev N_triangles : List Str := ["corners", "lines", "found", "a", "b", "c"]
theorem sc_triangles : FnScope N_triangles ["corners", "lines"] (defScope s_triangles) := ⟨rfl, rfl, rfl, by decide +kernel, rfl, by decide +kernel, by decide +kernel⟩
abbrev s_form_by : Stmt := topS 15
abbrev N_form_by : List Str := ["corners", "lines", "form", "a", "b", "c", "sides", "k", "one", "other", "i", "j", "line"]
theorem sc_form_by : FnScope N_form_by ["corners", "lines"] (defScope s_form_by) := ⟨rfl, rfl, rfl, by decide +kernel, rfl, by decide +kernel, by decide +kernel⟩
abbrev s_form_of : Stmt := topS 16
abbrev N_form_of : List Str := ["corners", "lines"]
theorem sc_form_of : FnScope N_form_of ["corners", "lines"] (defScope s_form_of) := ⟨rfl, rfl, rfl, by decide +kernel, rfl, by decide +kernel, by decide +kernel⟩
abbrev s_cut_turned : Stmt := topS 17
abbrev N_cut_turned : List Str := ["corners", "lines", "line", "left", "part", "one"]
theorem sc_cut_turned : FnScope N_cut_turned ["corners", "lines", "line"] (defScope s_cut_turned) := ⟨rfl, rfl, rfl, by decide +kernel, rfl, by decide +kernel, by decide +kernel⟩
abbrev s__law_cell : Stmt := topS 19
abbrev N__law_cell : List Str := ["script", "k", "base"]
theorem sc__law_cell : FnScope N__law_cell ["script", "k"] (defScope s__law_cell) := ⟨rfl, rfl, rfl, by decide +kernel, rfl, by decide +kernel, by decide +kernel⟩
abbrev s__law_like : Stmt := topS 23
abbrev N__law_like : List Str := ["found", "due", "numbers", "other", "one", "two"]
theorem sc__law_like : FnScope N__law_like ["found", "due"] (defScope s__law_like) := ⟨rfl, rfl, rfl, by decide +kernel, rfl, by decide +kernel, by decide +kernel⟩
abbrev s__law_line : Stmt := topS 24
abbrev N__law_line : List Str := ["corners", "line", "one", "other"]
theorem sc__law_line : FnScope N__law_line ["corners", "line"] (defScope s__law_line) := ⟨rfl, rfl, rfl, by decide +kernel, rfl, by decide +kernel, by decide +kernel⟩
abbrev s__law_cross : Stmt := topS 25
abbrev N__law_cross : List Str := ["line", "other"]
theorem sc__law_cross : FnScope N__law_cross ["line", "other"] (defScope s__law_cross) := ⟨rfl, rfl, rfl, by decide +kernel, rfl, by decide +kernel, by decide +kernel⟩
abbrev s__law_is_cut : Stmt := topS 26
abbrev N__law_is_cut : List Str := ["corners", "lines", "k", "j"]
theorem sc__law_is_cut : FnScope N__law_is_cut ["corners", "lines"] (defScope s__law_is_cut) := ⟨rfl, rfl, rfl, by decide +kernel, rfl, by decide +kernel, by decide +kernel⟩
abbrev s__law_cut : Stmt := topS 27
abbrev N__law_cut : List Str := ["script", "k", "corners", "lines", "todo", "one", "other", "at"]
theorem sc__law_cut : FnScope N__law_cut ["script", "k", "corners"] (defScope s__law_cut) := ⟨rfl, rfl, rfl, by decide +kernel, rfl, by decide +kernel, by decide +kernel⟩
abbrev s__law_parts : Stmt := topS 28
abbrev N__law_parts : List Str := ["corners", "lines", "found", "a", "b", "c", "some", "x"]
theorem sc__law_parts : FnScope N__law_parts ["corners", "lines"] (defScope s__law_parts) := ⟨rfl, rfl, rfl, by decide +kernel, rfl, by decide +kernel, by decide +kernel⟩
abbrev s__law_form_of : Stmt := topS 29
abbrev N__law_form_of : List Str := ["corners", "lines", "form", "a", "b", "c", "some", "one", "other", "i", "j", "line"]
theorem sc__law_form_of : FnScope N__law_form_of ["corners", "lines"] (defScope s__law_form_of) := ⟨rfl, rfl, rfl, by decide +kernel, rfl, by decide +kernel, by decide +kernel⟩
abbrev s__law_which : Stmt := topS 30
abbrev N__law_which : List Str := ["e", "kinds"]
theorem sc__law_which : FnScope N__law_which ["e"] (defScope s__law_which) := ⟨rfl, rfl, rfl, by decide +kernel, rfl, by decide +kernel, by decide +kernel⟩
abbrev s__law_hurt : Stmt := topS 31
abbrev N__law_hurt : List Str := ["lines", "mode", "cell", "number", "found", "at", "pair"]
theorem sc__law_hurt : FnScope N__law_hurt ["lines", "mode", "cell", "number"] (defScope s__law_hurt) := ⟨rfl, rfl, rfl, by decide +kernel, rfl, by decide +kernel, by decide +kernel⟩
abbrev s__law_met : Stmt := topS 32
abbrev N__law_met : List Str := ["how", "corners", "lines", "line", "which", "found", "e"]
theorem sc__law_met : FnScope N__law_met ["how", "corners", "lines", "line"] (defScope s__law_met) := ⟨rfl, rfl, rfl, by decide +kernel, rfl, by decide +kernel, by decide +kernel⟩
abbrev s__law_told : Stmt := topS 33
abbrev N__law_told : List Str := ["corners", "lines", "handed", "form", "lap", "found", "line", "some", "due", "part", "one"]
theorem sc__law_told : FnScope N__law_told ["corners", "lines", "handed"] (defScope s__law_told) := ⟨rfl, rfl, rfl, by decide +kernel, rfl, by decide +kernel, by decide +kernel⟩
abbrev s_law : Stmt := topS 34
abbrev N_law : List Str := ["script", "corners", "lines", "mode", "handed", "found", "due", "pair"]
theorem sc_law : FnScope N_law ["script"] (defScope s_law) := ⟨rfl, rfl, rfl, by decide +kernel, rfl, by decide +kernel, by decide +kernel⟩
/-- what the top has left: the defs, the constants, the classes, the built-in names -/
structure Txt (K : Frag) (mg : Str → Option Value) where
  f_line_right : Addr
  d_line_right : FuncData
  F_line_right : Fun K "line_right" "line_right" s_line_right f_line_right d_line_right
  m_line_right : mg "line_right" = some (.ref f_line_right)
  b_line_right : Binds K d_line_right ["corners", "line"] []
  f_crossing : Addr
  d_crossing : FuncData
  F_crossing : Fun K "crossing" "crossing" s_crossing f_crossing d_crossing
  m_crossing : mg "crossing" = some (.ref f_crossing)
  b_crossing : Binds K d_crossing ["line", "other"] []
  f_is_cut : Addr
  d_is_cut : FuncData
  F_is_cut : Fun K "is_cut" "is_cut" s_is_cut f_is_cut d_is_cut
  m_is_cut : mg "is_cut" = some (.ref f_is_cut)
  b_is_cut : Binds K d_is_cut ["corners", "lines"] []
  f_must_cut : Addr
  d_must_cut : FuncData
  F_must_cut : Fun K "must_cut" "must_cut" s_must_cut f_must_cut d_must_cut
  m_must_cut : mg "must_cut" = some (.ref f_must_cut)
  b_must_cut : Binds K d_must_cut ["corners", "lines"] []
  f_is_side : Addr
  d_is_side : FuncData
  F_is_side : Fun K "is_side" "is_side" s_is_side f_is_side d_is_side
  m_is_side : mg "is_side" = some (.ref f_is_side)
  b_is_side : Binds K d_is_side ["corners", "lines", "one", "other"] []
  f_triangles : Addr
  d_triangles : FuncData
  F_triangles : Fun K "triangles" "triangles" s_triangles f_triangles d_triangles
  m_triangles : mg "triangles" = some (.ref f_triangles)
  b_triangles : Binds K d_triangles ["corners", "lines"] []
  f_form_by : Addr
  d_form_by : FuncData
  F_form_by : Fun K "form_by" "form_by" s_form_by f_form_by d_form_by
  m_form_by : mg "form_by" = some (.ref f_form_by)
  b_form_by : Binds K d_form_by ["corners", "lines"] []
  f_form_of : Addr
  d_form_of : FuncData
  F_form_of : Fun K "form_of" "form_of" s_form_of f_form_of d_form_of
  m_form_of : mg "form_of" = some (.ref f_form_of)
  b_form_of : Binds K d_form_of ["corners", "lines"] []
  f_cut_turned : Addr
  d_cut_turned : FuncData
  F_cut_turned : Fun K "cut_turned" "cut_turned" s_cut_turned f_cut_turned d_cut_turned
  m_cut_turned : mg "cut_turned" = some (.ref f_cut_turned)
  b_cut_turned : Binds K d_cut_turned ["corners", "lines", "line"] []
  f__law_cell : Addr
  d__law_cell : FuncData
  F__law_cell : Fun K "_law_cell" "_law_cell" s__law_cell f__law_cell d__law_cell
  m__law_cell : mg "_law_cell" = some (.ref f__law_cell)
  b__law_cell : Binds K d__law_cell ["script", "k"] []
  f__law_like : Addr
  d__law_like : FuncData
  F__law_like : Fun K "_law_like" "_law_like" s__law_like f__law_like d__law_like
  m__law_like : mg "_law_like" = some (.ref f__law_like)
  b__law_like : Binds K d__law_like ["found", "due"] []
  f__law_line : Addr
  d__law_line : FuncData
  F__law_line : Fun K "_law_line" "_law_line" s__law_line f__law_line d__law_line
  m__law_line : mg "_law_line" = some (.ref f__law_line)
  b__law_line : Binds K d__law_line ["corners", "line"] []
  f__law_cross : Addr
  d__law_cross : FuncData
  F__law_cross : Fun K "_law_cross" "_law_cross" s__law_cross f__law_cross d__law_cross
  m__law_cross : mg "_law_cross" = some (.ref f__law_cross)
  b__law_cross : Binds K d__law_cross ["line", "other"] []
  f__law_is_cut : Addr
  d__law_is_cut : FuncData
  F__law_is_cut : Fun K "_law_is_cut" "_law_is_cut" s__law_is_cut f__law_is_cut d__law_is_cut
  m__law_is_cut : mg "_law_is_cut" = some (.ref f__law_is_cut)
  b__law_is_cut : Binds K d__law_is_cut ["corners", "lines"] []
  f__law_cut : Addr
  d__law_cut : FuncData
  F__law_cut : Fun K "_law_cut" "_law_cut" s__law_cut f__law_cut d__law_cut
  m__law_cut : mg "_law_cut" = some (.ref f__law_cut)
  b__law_cut : Binds K d__law_cut ["script", "k", "corners"] []
  f__law_parts : Addr
  d__law_parts : FuncData
  F__law_parts : Fun K "_law_parts" "_law_parts" s__law_parts f__law_parts d__law_parts
  m__law_parts : mg "_law_parts" = some (.ref f__law_parts)
  b__law_parts : Binds K d__law_parts ["corners", "lines"] []
  f__law_form_of : Addr
  d__law_form_of : FuncData
  F__law_form_of : Fun K "_law_form_of" "_law_form_of" s__law_form_of f__law_form_of d__law_form_of
  m__law_form_of : mg "_law_form_of" = some (.ref f__law_form_of)
  b__law_form_of : Binds K d__law_form_of ["corners", "lines"] []
  f__law_which : Addr
  d__law_which : FuncData
  F__law_which : Fun K "_law_which" "_law_which" s__law_which f__law_which d__law_which
  m__law_which : mg "_law_which" = some (.ref f__law_which)
  b__law_which : Binds K d__law_which ["e"] []
  f__law_hurt : Addr
  d__law_hurt : FuncData
  F__law_hurt : Fun K "_law_hurt" "_law_hurt" s__law_hurt f__law_hurt d__law_hurt
  m__law_hurt : mg "_law_hurt" = some (.ref f__law_hurt)
  b__law_hurt : Binds K d__law_hurt ["lines", "mode", "cell", "number"] []
  f__law_met : Addr
  d__law_met : FuncData
  F__law_met : Fun K "_law_met" "_law_met" s__law_met f__law_met d__law_met
  m__law_met : mg "_law_met" = some (.ref f__law_met)
  b__law_met : Binds K d__law_met ["how", "corners", "lines", "line"] []
  f__law_told : Addr
  d__law_told : FuncData
  F__law_told : Fun K "_law_told" "_law_told" s__law_told f__law_told d__law_told
  m__law_told : mg "_law_told" = some (.ref f__law_told)
  b__law_told : Binds K d__law_told ["corners", "lines", "handed"] []
  f_law : Addr
  d_law : FuncData
  F_law : Fun K "law" "law" s_law f_law d_law
  m_law : mg "law" = some (.ref f_law)
  b_law : Binds K d_law ["script"] []
  t_MOST_CORNERS : Tok
  m_MOST_CORNERS : mg "MOST_CORNERS" = some (.int 9 t_MOST_CORNERS)
  c_TurnError : Addr
  x_TurnError : ExcF K mg "TurnError" c_TurnError
  g_TurnError : mg "TurnError" = some (.ref c_TurnError)
  c_NoForm : Addr
  x_NoForm : ExcF K mg "NoForm" c_NoForm
  g_NoForm : mg "NoForm" = some (.ref c_NoForm)
  c_NoBox : Addr
  x_NoBox : ExcF K mg "NoBox" c_NoBox
  g_NoBox : mg "NoBox" = some (.ref c_NoBox)
  c_NoNames : Addr
  x_NoNames : ExcF K mg "NoNames" c_NoNames
  g_NoNames : mg "NoNames" = some (.ref c_NoNames)
  c_NoCut : Addr
  x_NoCut : ExcF K mg "NoCut" c_NoCut
  g_NoCut : mg "NoCut" = some (.ref c_NoCut)
  c_TooMany : Addr
  x_TooMany : ExcF K mg "TooMany" c_TooMany
  g_TooMany : mg "TooMany" = some (.ref c_TooMany)
  u_TurnError_TurnError : PySem.W.subIn K (.ref c_TurnError) (.ref c_TurnError) = some true
  u_TurnError_NoForm : PySem.W.subIn K (.ref c_TurnError) (.ref c_NoForm) = some false
  u_TurnError_NoBox : PySem.W.subIn K (.ref c_TurnError) (.ref c_NoBox) = some false
  u_TurnError_NoNames : PySem.W.subIn K (.ref c_TurnError) (.ref c_NoNames) = some false
  u_TurnError_NoCut : PySem.W.subIn K (.ref c_TurnError) (.ref c_NoCut) = some false
  u_TurnError_TooMany : PySem.W.subIn K (.ref c_TurnError) (.ref c_TooMany) = some false
  u_NoForm_TurnError : PySem.W.subIn K (.ref c_NoForm) (.ref c_TurnError) = some true
  u_NoForm_NoForm : PySem.W.subIn K (.ref c_NoForm) (.ref c_NoForm) = some true
  u_NoForm_NoBox : PySem.W.subIn K (.ref c_NoForm) (.ref c_NoBox) = some false
  u_NoForm_NoNames : PySem.W.subIn K (.ref c_NoForm) (.ref c_NoNames) = some false
  u_NoForm_NoCut : PySem.W.subIn K (.ref c_NoForm) (.ref c_NoCut) = some false
  u_NoForm_TooMany : PySem.W.subIn K (.ref c_NoForm) (.ref c_TooMany) = some false
  u_NoBox_TurnError : PySem.W.subIn K (.ref c_NoBox) (.ref c_TurnError) = some true
  u_NoBox_NoForm : PySem.W.subIn K (.ref c_NoBox) (.ref c_NoForm) = some false
  u_NoBox_NoBox : PySem.W.subIn K (.ref c_NoBox) (.ref c_NoBox) = some true
  u_NoBox_NoNames : PySem.W.subIn K (.ref c_NoBox) (.ref c_NoNames) = some false
  u_NoBox_NoCut : PySem.W.subIn K (.ref c_NoBox) (.ref c_NoCut) = some false
  u_NoBox_TooMany : PySem.W.subIn K (.ref c_NoBox) (.ref c_TooMany) = some false
  u_NoNames_TurnError : PySem.W.subIn K (.ref c_NoNames) (.ref c_TurnError) = some true
  u_NoNames_NoForm : PySem.W.subIn K (.ref c_NoNames) (.ref c_NoForm) = some false
  u_NoNames_NoBox : PySem.W.subIn K (.ref c_NoNames) (.ref c_NoBox) = some false
  u_NoNames_NoNames : PySem.W.subIn K (.ref c_NoNames) (.ref c_NoNames) = some true
  u_NoNames_NoCut : PySem.W.subIn K (.ref c_NoNames) (.ref c_NoCut) = some false
  u_NoNames_TooMany : PySem.W.subIn K (.ref c_NoNames) (.ref c_TooMany) = some false
  u_NoCut_TurnError : PySem.W.subIn K (.ref c_NoCut) (.ref c_TurnError) = some true
  u_NoCut_NoForm : PySem.W.subIn K (.ref c_NoCut) (.ref c_NoForm) = some false
  u_NoCut_NoBox : PySem.W.subIn K (.ref c_NoCut) (.ref c_NoBox) = some false
  u_NoCut_NoNames : PySem.W.subIn K (.ref c_NoCut) (.ref c_NoNames) = some false
  u_NoCut_NoCut : PySem.W.subIn K (.ref c_NoCut) (.ref c_NoCut) = some true
  u_NoCut_TooMany : PySem.W.subIn K (.ref c_NoCut) (.ref c_TooMany) = some false
  u_TooMany_TurnError : PySem.W.subIn K (.ref c_TooMany) (.ref c_TurnError) = some true
  u_TooMany_NoForm : PySem.W.subIn K (.ref c_TooMany) (.ref c_NoForm) = some false
  u_TooMany_NoBox : PySem.W.subIn K (.ref c_TooMany) (.ref c_NoBox) = some false
  u_TooMany_NoNames : PySem.W.subIn K (.ref c_TooMany) (.ref c_NoNames) = some false
  u_TooMany_NoCut : PySem.W.subIn K (.ref c_TooMany) (.ref c_NoCut) = some false
  u_TooMany_TooMany : PySem.W.subIn K (.ref c_TooMany) (.ref c_TooMany) = some true
  b_len : mg "len" = none
  b_range : mg "range" = none
  b_sum : mg "sum" = none
  b_sorted : mg "sorted" = none
  b_max : mg "max" = none
  b_min : mg "min" = none
  b_isinstance : mg "isinstance" = none
  b_list : mg "list" = none
  b_zip : mg "zip" = none
  b_bool : mg "bool" = none
  b_int : mg "int" = none
  b_ValueError : mg "ValueError" = none
  b_all : mg "all" = none
  b_tuple : mg "tuple" = none
end AT

namespace AT
open PySem PySem.Spec PyProof.Rows L2 Evl
/-! ### is_form -/
def cl (M : List (List Int)) (i j : Nat) : Int := (M.getD i []).getD j 0
/-- rows that are a form of n boxes with the numbers f -/
def FormOf (n : Nat) (f : Nat → Nat → Int) : Prop := 1 ≤ n ∧ n ≤ 6 ∧ ∀ i j, i < n → j < n → f i j = 0 - f j i ∧ -99 ≤ f i j ∧ f i j ≤ 99
def IsForm (M : List (List Int)) : Prop := ∃ n f, M = Fm n f ∧ FormOf n f
theorem list_eq_range {α : Type} (d : α) (l : List α) : l = (List.range l.length).map fun i => l.getD i d := by
  apply List.ext_getElem
  · simp
  · intro i h1 h2
    simp [List.getD_eq_getElem?_getD, h1]
theorem fm_of {M : List (List Int)} (h : ∀ r, r ∈ M → r.length = M.length) : M = Fm M.length (cl M) := by
  unfold Fm
  refine (list_eq_range [] M).trans (mapr_ext fun i hi => ?_)
  have hm : M.getD i [] ∈ M := by
    rw [List.getD_eq_getElem?_getD, List.getElem?_eq_getElem hi]
    exact List.getElem_mem hi
  have e := list_eq_range 0 (M.getD i [])
  rw [h _ hm] at e
  exact e
theorem isForm_rows {M : List (List Int)} (h : IsForm M) : 1 ≤ M.length ∧ M.length ≤ 6 ∧ (∀ r, r ∈ M → r.length = M.length) := by
  obtain ⟨n, f, rfl, h1, h2, _⟩ := h
  rw [fm_len]
  refine ⟨h1, h2, fun r hr => ?_⟩
  obtain ⟨i, _, rfl⟩ := List.mem_map.mp hr
  simp
theorem isForm_iff {M : List (List Int)} (h1 : 1 ≤ M.length) (h2 : M.length ≤ 6) (h : ∀ r, r ∈ M → r.length = M.length) :
    IsForm M ↔ ∀ i j, i < M.length → j < M.length → cl M i j = 0 - cl M j i ∧ -99 ≤ cl M i j ∧ cl M i j ≤ 99 := by
  constructor
  · rintro ⟨n, f, e, _, _, q⟩ i j hi hj
    have e2 := (fm_of h).symm.trans e
    obtain ⟨e3, e4⟩ := fm_inj e2
    rw [e4 i j hi hj, e4 j i hj hi]
    exact q i j (by omega) (by omega)
  · intro q
    exact ⟨M.length, cl M, fm_of h, h1, h2, q⟩
def sp_is_form (K : Frag) : Sp := fun vs H Q _ => ∃ a M, vs = [.ref a] ∧ LLI K H a M ∧ M.length ≤ 1000 ∧ (∀ r, r ∈ M → r.length ≤ 1000) ∧ ∀ b H', Ex H H' → (b = true ↔ IsForm M) → Q (.bl b) H'
section
variable {P : Program} {w : World} {K : Frag} {mg : Str → Option Value} {base : Heap} {k : Nat}
theorem given_pos {n : Nat} {f : Nat → Bool} {v : Nat → V} : (0 < ((given n f v).length : Int)) ↔ ∃ i, i < n ∧ f i = true := by
  unfold given
  rw [List.length_map]
  constructor
  · intro h
    have h2 : 0 < ((List.range n).filter f).length := by omega
    obtain ⟨x, hx⟩ := List.exists_mem_of_length_pos h2
    obtain ⟨a, b⟩ := List.mem_filter.mp hx
    exact ⟨x, List.mem_range.mp a, b⟩
  · rintro ⟨i, hi, hf⟩
    have : i ∈ (List.range n).filter f := List.mem_filter.mpr ⟨List.mem_range.mpr hi, hf⟩
    have := List.length_pos_of_mem this
    omega
end
end AT

namespace AT
open PySem PySem.Spec PyProof.Rows L2 Evl
/-! ### must_form, through, turned_by, turned -/
def thr (a b : Int) : Int := if 0 < a ∧ 0 < b then a * b else if a < 0 ∧ b < 0 then 0 - a * b else 0
def turnF (f : Nat → Nat → Int) (k : Nat) : Nat → Nat → Int := fun i j => if i = k ∨ j = k then 0 - f i j else f i j + thr (f i k) (f k j)
/-- numbers of less than B bits -/
def Bits (B n : Nat) (f : Nat → Nat → Int) : Prop := 0 < B ∧ B + B ≤ 900000 ∧ ∀ i j, i < n → j < n → (f i j).natAbs < 2 ^ B
theorem FormOf.bits {n : Nat} {f : Nat → Nat → Int} (h : FormOf n f) : Bits 7 n f := ⟨by decide, by decide, fun i j hi hj => by
  have := (h.2.2 i j hi hj).2
  show _ < 128
  omega⟩
def SmallM (M : List (List Int)) : Prop := M.length ≤ 1000 ∧ ∀ r, r ∈ M → r.length ≤ 1000
theorem small_fm {n : Nat} {f : Nat → Nat → Int} (h : n ≤ 1000) : SmallM (Fm n f) := ⟨by rw [fm_len]; exact h, fun r hr => by
  obtain ⟨i, _, rfl⟩ := List.mem_map.mp hr
  simpa using h⟩
def sp_must_form (K : Frag) (C : Addr) : Sp := fun vs H Q E => ∃ a M, vs = [.ref a] ∧ LLI K H a M ∧ SmallM M ∧ ∀ H', Ex H H' → (IsForm M → Q .non H') ∧ (¬ IsForm M → E (.ref C) none H')
def sp_through : Sp := fun vs H Q _ => ∃ a b, vs = [.int a, .int b] ∧ CMulW a b ∧ ∀ H', Ex H H' → Q (.int (thr a b)) H'
def sp_turned_by (K : Frag) : Sp := fun vs H Q _ => ∃ a n f k B, vs = [.ref a, .int ((k : Nat) : Int)] ∧ LLI K H a (Fm n f) ∧ n ≤ 100 ∧ k < n ∧ Bits B n f ∧ ∀ H' p, Ex H H' → OLLI H H' p (Fm n (turnF f k)) → Q (.ref p) H'
def sp_turned (K : Frag) (CF CB : Addr) : Sp := fun vs H Q E => ∃ a M box, vs = [.ref a, .int box] ∧ LLI K H a M ∧ SmallM M ∧ (¬ IsForm M → ∀ H', Ex H H' → E (.ref CF) none H') ∧
  (∀ n f, M = Fm n f → FormOf n f → (∀ k : Nat, box = k → k < n → ∀ H' p, Ex H H' → OLLI H H' p (Fm n (turnF f k)) → Q (.ref p) H') ∧ ((box < 0 ∨ (n : Int) ≤ box) → ∀ H', Ex H H' → E (.ref CB) none H'))
section
variable {P : Program} {w : World} {K : Frag} {mg : Str → Option Value} {base : Heap} {k : Nat}
end
end AT

namespace AT
open PySem PySem.Spec PyProof.Rows L2 Evl
/-! ### the law's own readers and makers -/
def cellV (ns : List Int) (k : Nat) : Int := if k < ns.length then ns.getD k 0 else ((ns.getD 0 0) % 65521 * 48271 + k * 30103) % 65521
def sp__law_cell (K : Frag) : Sp := fun vs H Q _ => ∃ (a : Addr) (ns : List Int) (k : Nat), vs = [.ref a, .int (k : Int)] ∧ LI K H a ns ∧ k ≤ 100000 ∧ ∀ H', Ex H H' → Q (.int (cellV ns k)) H'
def sp__law_form (K : Frag) : Sp := fun vs H Q _ => ∃ (a : Addr) (ns : List Int) (k most : Nat), vs = [.ref a, .int (k : Int), .int (most : Int)] ∧ LI K H a ns ∧ k ≤ 1000 ∧ 1 ≤ most ∧ most ≤ 6 ∧ ∀ n f H' p, Ex H H' → FormOf n f → n ≤ most → OLLI H H' p (Fm n f) → Q (.ref p) H'
def sp__law_copy (K : Frag) : Sp := fun vs H Q _ => ∃ a M, vs = [.ref a] ∧ LLI K H a M ∧ M.length ≤ 1000 ∧ ∀ H' p, Ex H H' → OLLI H H' p M → Q (.ref p) H'
def sp__law_like (K : Frag) : Sp := fun vs H Q _ => ∃ a b M N, vs = [.ref a, .ref b] ∧ TLL H a M ∧ LLI K H b N ∧ SmallM M ∧ ∀ H', Ex H H' → Q (.bl (decide (M = N))) H'
section
variable {P : Program} {w : World} {K : Frag} {mg : Str → Option Value} {base : Heap} {k : Nat}
theorem ok__law_cell (T : Txt K mg) : FnOk P w K mg base CX0 (k + 1) T.f__law_cell T.d__law_cell ["script", "k"] (sp__law_cell K) := by
  refine T.F__law_cell.ok sc__law_cell (fun vs H Q E h => ?_) (fun cdv A outer s H vs Q E hr h => ?_)
  · obtain ⟨a, ns, k, rfl, _⟩ := h
    rfl
  · obtain ⟨a, ns, k, rfl, hL, hk, q⟩ := h
    refine ⟨_, (pss_cons (ps_if (pt_cmpR op_lt (pv 1) (pe_callB (lenK K) rfl T.b_len PySem.boot_len (pa_cons (pv 0) pa_nil)) (nomark _))
        (pss_one (ps_ret (pe_ix (ixL K) (pv 0) (pv 1) (fun _ _ => rfl))))
        pss_nil)
      (pss_cons (ps_set (i := 2) sc__law_cell.nd rfl (.inl rfl) pe_int)
      (pss_cons (ps_if (pt_cmpR op_gt (pe_callB (lenK K) rfl T.b_len PySem.boot_len (pa_cons (pv 0) pa_nil)) pe_int (nomark _))
        (pss_one (ps_set (i := 2) sc__law_cell.nd rfl (.inl rfl) (pe_ix (ixL K) (pv 0) pe_int (fun _ _ => rfl))))
        pss_nil)
      (pss_one (ps_ret (pe_op op_modN (pe_op op_add (pe_op op_mul (pe_op op_modN (pv 2) pe_int) pe_int) (pe_op op_mul (pv 1) pe_int)) pe_int)))))), ?_⟩
    unfold cellV at q
    refine q_when (et_test (ev_op (ev_var rfl) (ev_lenLI (ev_var rfl) hL) rv_I0)) (fun hb H1 e1 => ?_) (fun hb H1 e1 => ?_)
    · have hk : k < ns.length := by have := of_decide_eq_true hb; omega
      refine s_ret (ev_item (v := ns.getD k 0) (ev_var rfl) (ev_var rfl) (hL.mono e1) (by rw [List.getD_eq_getElem?_getD, List.getElem?_eq_getElem hk]; rfl)) fun H2 e2 => ?_
      have := q H2 (e1.trans e2)
      rw [if_pos hk] at this
      exact this
    · have hk : ¬ k < ns.length := fun z => (of_decide_eq_false hb) (by omega)
      rw [if_neg hk] at q
      have fin : ∀ (b : Int) H1, b = ns.getD 0 0 → Ex H H1 → tRet (tOp (rI (fun _ j => j ≠ 0) fun i j => .int (i.fmod j)) (tOp (rI0 fun i j => .int (i + j)) (tOp (rI CMul fun i j => .int (i * j)) (tOp (rI (fun _ j => j ≠ 0) fun i j => .int (i.fmod j)) (tVar 2) (tC (.int 65521))) (tC (.int 48271))) (tOp (rI CMul fun i j => .int (i * j)) (tVar 1) (tC (.int 30103)))) (tC (.int 65521)))
          { nx := fun _ H' => Q .non H', rt := Q } [some (.ref a), some (.int (k : Int)), some (.int b)] H1 := fun b H1 hb e1 =>
        s_ret (ev_mod (ev_op (ev_op (ev_mod (ev_var rfl) ev_c (by decide)) ev_c (rv_I (.inr ⟨by decide, by decide⟩))) (ev_op (ev_var rfl) ev_c (rv_I (.inr ⟨by decide, by decide⟩))) rv_I0) ev_c (by decide)) fun H2 e2 => by
          rw [hb]
          exact q H2 (e1.trans e2)
      refine q_asg ev_c fun H2 e2 => q_when (et_test (ev_op (ev_lenLI (ev_var rfl) (hL.mono (e1.trans e2))) ev_c rv_I0)) (fun hb H3 e3 => ?_) (fun hb H3 e3 => ?_)
      · have h0 : 0 < ns.length := by have := of_decide_eq_true hb; omega
        exact s_asg (ev_item (i := 0) (v := ns.getD 0 0) (ev_var rfl) ev_c (hL.mono ((e1.trans e2).trans e3)) (by rw [List.getD_eq_getElem?_getD, List.getElem?_eq_getElem h0]; rfl)) fun H4 e4 => fin _ H4 rfl (((e1.trans e2).trans e3).trans e4)
      · have h0 : ns.length = 0 := by have := of_decide_eq_false hb; omega
        exact fin 0 H3 (by rw [List.getD_eq_getElem?_getD, List.getElem?_eq_none (by omega)]; rfl) ((e1.trans e2).trans e3)
/-- a call of it -/
theorem ev_cv {H : Hp} {σ : St} {a : Addr} {ns : List Int} {E : XK} {ta : TA} {j : Nat} (hL : LI K H a ns) (h : EvA ta σ H [.ref a, .int (j : Int)]) (hj : j ≤ 100000) : Ev (tCall (sp__law_cell K) [] E ta) σ H (.int (cellV ns j)) :=
  ev_call h fun H1 e1 Q q E => ⟨a, ns, j, rfl, hL.mono e1, hj, q⟩
theorem ok__law_like (T : Txt K mg) : FnOk P w K mg base CX0 (k + 1) T.f__law_like T.d__law_like ["found", "due"] (sp__law_like K) := by
  refine T.F__law_like.ok sc__law_like (fun vs H Q E h => ?_) (fun cdv A outer s H vs Q E hr h => ?_)
  · obtain ⟨a, b, M, N, rfl, _⟩ := h
    rfl
  · obtain ⟨a, b, M, N, rfl, hM, hN, hs, q⟩ := h
    refine ⟨_, (pss_cons (ps_if (PW.pt (pw_or (pt_not (pt_val (pe_callB (isiK K) rfl T.b_isinstance (by decide +kernel) (pa_cons (pv 0) (pa_cons (pe_bltn (v := .ty "list") rfl T.b_list (by decide +kernel) rfl) pa_nil))))) (pw_or1 (pt_cmpR op_ne (pe_callB (lenK K) rfl T.b_len PySem.boot_len (pa_cons (pv 0) pa_nil)) (pe_callB (lenK K) rfl T.b_len PySem.boot_len (pa_cons (pv 1) pa_nil)) (nomark _)))))
        (pss_one (ps_ret pe_bl))
        pss_nil)
      (pss_cons (ps_for PassesOwn.never rfl (pi_zipK K rfl T.b_zip (pa_cons (pv 0) (pa_cons (pv 1) pa_nil))) (pg_tupK K (n := 2) rfl (pgs_cons (pg_name (i := 2) sc__law_like.nd rfl (.inl rfl)) (pgs_cons (pg_name (i := 3) sc__law_like.nd rfl (.inl rfl)) pgs_nil)))
        (pss_cons (ps_if (PW.pt (pw_or (pt_not (pt_val (pe_callB (isiK K) rfl T.b_isinstance (by decide +kernel) (pa_cons (pv 2) (pa_cons (pe_bltn (v := .ty "list") rfl T.b_list (by decide +kernel) rfl) pa_nil))))) (pw_or1 (pt_cmpR op_ne (pe_callB (lenK K) rfl T.b_len PySem.boot_len (pa_cons (pv 2) pa_nil)) (pe_callB (lenK K) rfl T.b_len PySem.boot_len (pa_cons (pv 3) pa_nil)) (nomark _)))))
        (pss_one (ps_ret pe_bl))
        pss_nil)
      (pss_one (ps_for PassesOwn.never rfl (pi_zipK K rfl T.b_zip (pa_cons (pv 2) (pa_cons (pv 3) pa_nil))) (pg_tupK K (n := 2) rfl (pgs_cons (pg_name (i := 4) sc__law_like.nd rfl (.inl rfl)) (pgs_cons (pg_name (i := 5) sc__law_like.nd rfl (.inl rfl)) pgs_nil)))
        (pss_one (ps_if (PW.pt (pw_or (pt_not (pt_val (pe_callB (isiK K) rfl T.b_isinstance (by decide +kernel) (pa_cons (pv 4) (pa_cons (pe_bltn (v := .ty "int") rfl T.b_int (by decide +kernel) rfl) pa_nil))))) (pw_or (pt_val (pe_callB (isiK K) rfl T.b_isinstance (by decide +kernel) (pa_cons (pv 4) (pa_cons (pe_bltn (v := .ty "bool") rfl T.b_bool (by decide +kernel) rfl) pa_nil)))) (pw_or1 (pt_cmpR op_ne (pv 4) (pv 5) (nomark _))))))
        (pss_one (ps_ret pe_bl))
        pss_nil))))))
      (pss_one (ps_ret pe_bl)))), ?_⟩
    have hM' := hM.lli (K := K)
    obtain ⟨as, _, hA, _, hP⟩ := id hM
    obtain ⟨bs, hB, hR⟩ := id hN
    have hlen := hP.length
    have hlen2 := hR.length
    refine q_when (et_or (et_not (et_test (ev_isList (ev_var rfl) hA))) fun _ => et_test (ev_op (ev_lenLLI (ev_var rfl) hM') (ev_lenLLI (ev_var rfl) hN) (rv_ne rfl))) (fun hb H1 e1 => ?_) (fun hb H1 e1 => ?_)
    · refine s_ret ev_c fun H2 e2 => ?_
      have hne : ¬ M = N := fun z => by subst z; simp at hb
      have := q H2 (e1.trans e2)
      rw [decide_eq_false hne] at this
      exact this
    · have hl : M.length = N.length := by
        simp only [Bool.not_true, Bool.false_or, Bool.not_eq_false', decide_eq_true_eq] at hb
        injection hb with hb
        omega
      refine q_forZ (xs := as.map V.ref) (ys := bs.map V.ref) (ea_cons (ev_var rfl) (ea_cons (ev_var rfl) ea_nil)) (sq_of (e1 _ _ hA)) (ex_l e1 hB) (by simp; omega) (fun i σ' H' => ∃ x2 x3 x4 x5, σ' = [some (.ref a), some (.ref b), x2, x3, x4, x5] ∧ Ex H H' ∧ ∀ j, j < i → M[j]? = N[j]?)
        (fun H2 e2 => ⟨_, _, _, _, rfl, e1.trans e2, fun j h => absurd h (Nat.not_lt_zero _)⟩) (fun i σ' H' hP' => by obtain ⟨_, _, _, _, _, eH, _⟩ := hP'; exact ⟨sq_of (eH _ _ hA), ex_l eH hB⟩) (fun i x y T' σ' H' hx hy hP' hT => ?_) (fun σ' H' hP' => ?_)
      · obtain ⟨x2, x3, x4, x5, rfl, eH, hj⟩ := hP'
        have eT : Ex H' (upd H' T' (.tup [x, y])) := Ex.new hT
        rw [List.getElem?_map] at hx hy
        cases hax : as[i]? with
        | none => rw [hax] at hx; cases hx
        | some ax =>
          cases hby : bs[i]? with
          | none => rw [hby] at hy; cases hy
          | some byy =>
            rw [hax] at hx; rw [hby] at hy
            cases hx; cases hy
            obtain ⟨r1, hr1, hO1⟩ := paired_getL hP hax
            obtain ⟨r2, hr2, hO2⟩ := paired_getL hR hby
            have hr1s : r1.length ≤ 1000 := hs.2 _ (List.mem_of_getElem? hr1)
            have hne : r1 ≠ r2 → ∀ H2, Ex (upd H' T' (.tup [.ref ax, .ref byy])) H2 → Q (.bl false) H2 := fun hne H2 e2 => by
              have hMN : ¬ M = N := fun z => hne (by
                subst z
                rw [hr1] at hr2
                exact Option.some.inj hr2)
              have := q H2 ((eH.trans eT).trans e2)
              rw [decide_eq_false hMN] at this
              exact this
            have g1 : ∀ H2, Ex (upd H' T' (.tup [.ref ax, .ref byy])) H2 → H2 ax = some (.lst (r1.map V.int)) := fun H2 e2 => ((eH.trans eT).trans e2) _ _ hO1.2
            have g2 : ∀ H2, Ex (upd H' T' (.tup [.ref ax, .ref byy])) H2 → LI K H2 byy r2 := fun H2 e2 => hO2.mono ((eH.trans eT).trans e2)
            refine q_when (et_or (et_not (et_test (ev_isList (ev_var rfl) (g1 _ (Ex.refl _))))) fun _ => et_test (ev_op (ev_lenLI (xs := r1) (ev_var rfl) (sq_of (g1 _ (Ex.refl _)))) (ev_lenLI (ev_var rfl) (g2 _ (Ex.refl _))) (rv_ne rfl))) (fun hb H2 e2 => ?_) (fun hb H2 e2 => ?_)
            · exact s_ret ev_c fun H3 e3 => hne (fun z => by subst z; simp at hb) H3 (e2.trans e3)
            · have hl2 : r1.length = r2.length := by
                simp only [Bool.not_true, Bool.false_or, Bool.not_eq_false', decide_eq_true_eq] at hb
                injection hb with hb
                omega
              refine s_forZ (xs := r1.map V.int) (ys := r2.map V.int) (ea_cons (ev_var rfl) (ea_cons (ev_var rfl) ea_nil)) (sq_of (g1 _ e2)) (g2 _ e2) (by simp; omega) (fun i' σ' H'' => ∃ x4 x5, σ' = [some (.ref a), some (.ref b), some (.ref ax), some (.ref byy), x4, x5] ∧ Ex (upd H' T' (.tup [.ref ax, .ref byy])) H'' ∧ ∀ j, j < i' → r1[j]? = r2[j]?)
                (fun H3 e3 => ⟨_, _, rfl, e2.trans e3, fun j h => absurd h (Nat.not_lt_zero _)⟩) (fun i' σ' H'' hP'' => by obtain ⟨_, _, _, eH'', _⟩ := hP''; exact ⟨sq_of (g1 _ eH''), g2 _ eH''⟩) (fun i' x y T2 σ' H'' hx hy hP'' hT2 => ?_) (fun σ' H'' hP'' => ?_)
              · obtain ⟨x4, x5, rfl, eH'', hj'⟩ := hP''
                rw [List.getElem?_map] at hx hy
                cases hr1i : r1[i']? with
                | none => rw [hr1i] at hx; cases hx
                | some u1 =>
                  cases hr2i : r2[i']? with
                  | none => rw [hr2i] at hy; cases hy
                  | some u2 =>
                    rw [hr1i] at hx; rw [hr2i] at hy
                    cases hx; cases hy
                    have eT2 : Ex H'' (upd H'' T2 (.tup [.int u1, .int u2])) := Ex.new hT2
                    refine s_when (et_or (et_not (et_test (ev_isInt (ev_var rfl)))) fun _ => et_or (et_test (ev_isIntBool (ev_var rfl))) fun _ => et_test (ev_op (ev_var rfl) (ev_var rfl) (rv_ne rfl))) (fun hb H3 e3 => ?_) (fun hb H3 e3 => ?_)
                    · refine s_ret ev_c fun H4 e4 => hne (fun z => ?_) H4 ((eH''.trans eT2).trans (e3.trans e4))
                      subst z
                      rw [hr1i] at hr2i
                      cases hr2i
                      simp at hb
                    · have hu : u1 = u2 := by
                        simp only [Bool.not_true, Bool.false_or, Bool.not_eq_false', decide_eq_true_eq] at hb
                        injection hb
                      refine ⟨_, _, rfl, (eH''.trans eT2).trans e3, fun j hj => ?_⟩
                      by_cases hji : j = i'
                      · subst hji
                        rw [hr1i, hr2i, hu]
                      · exact hj' j (by omega)
              · obtain ⟨x4, x5, rfl, eH'', hj'⟩ := hP''
                have hrr : r1 = r2 := by
                  apply List.ext_getElem?
                  intro j
                  by_cases hjl : j < r1.length
                  · exact hj' j (by simpa using hjl)
                  · rw [List.getElem?_eq_none (by omega), List.getElem?_eq_none (by omega)]
                refine ⟨_, _, _, _, rfl, (eH.trans eT).trans eH'', fun j hji => ?_⟩
                by_cases hjj : j = i
                · subst hjj
                  rw [hr1, hr2, hrr]
                · exact hj j (by omega)
      · obtain ⟨x2, x3, x4, x5, rfl, eH, hj⟩ := hP'
        have hMN : M = N := by
          apply List.ext_getElem?
          intro j
          by_cases hjl : j < M.length
          · exact hj j (by simp; omega)
          · rw [List.getElem?_eq_none (by omega), List.getElem?_eq_none (by omega)]
        refine s_ret ev_c fun H2 e2 => ?_
        have := q H2 (eH.trans e2)
        rw [decide_eq_true hMN] at this
        exact this
end
end AT

/-! ## the known defs' calls in one word; what turning keeps -/
namespace AT
open PySem PySem.Spec PyProof.Rows L2 Evl
section
variable {K : Frag} {σ : St} {H : Hp} {ta : TA} {te t1 : TE} {a p : Addr} {M : List (List Int)} {ns : List Int} {E : XK} {C1 C2 : Addr}
/-- a form drawn -/
def RForm (most : Nat) : R3 := fun H1 H2 v => ∃ n f p, v = .ref p ∧ FormOf n f ∧ n ≤ most ∧ OLLI H1 H2 p (Fm n f)
theorem mon_RForm {most : Nat} : Mon (RForm most) := ⟨fun e ⟨n, f, p, h1, h2, h3, h4⟩ => ⟨n, f, p, h1, h2, h3, h4.mono e⟩, fun e ⟨n, f, p, h1, h2, h3, h4⟩ => ⟨n, f, p, h1, h2, h3, h4.back e⟩⟩
theorem er_form {j most : Nat} (hL : LI K H a ns) (h : EvA ta σ H [.ref a, .int (j : Int), .int (most : Int)]) (hj : j ≤ 1000) (h1 : 1 ≤ most) (h6 : most ≤ 6) : Er (tCall (sp__law_form K) [] E ta) σ H (RForm most) :=
  er_call mon_RForm h fun H1 e1 Q q E => ⟨a, ns, j, most, rfl, hL.mono e1, hj, h1, h6, fun n f H' p e hf hm hO => q _ H' e ⟨n, f, p, rfl, hf, hm, hO⟩⟩
theorem er_copy (h : Ev te σ H (.ref a)) (hM : LLI K H a M) (hl : M.length ≤ 1000) : Er (tCall (sp__law_copy K) [] E (tCons te tNil)) σ H (RM M) :=
  er_call mon_RM (ea_cons h ea_nil) fun H1 e1 Q q E => ⟨a, M, rfl, hM.mono e1, hl, fun H' p e hO => q _ H' e ⟨p, rfl, hO⟩⟩
theorem fmI {n : Nat} {f : Nat → Nat → Int} (hf : FormOf n f) : IsForm (Fm n f) := ⟨n, f, rfl, hf⟩
theorem turnF_ext {n k : Nat} {f g : Nat → Nat → Int} (hk : k < n) (h : ∀ i j, i < n → j < n → f i j = g i j) : Fm n (turnF f k) = Fm n (turnF g k) := fm_ext fun a b ha hb => by
  unfold turnF
  rw [h a b ha hb, h a k ha hk, h k b hk hb]
/-- turned: its promise at a form and a box of it -/
theorem spr_turned {n k : Nat} {f : Nat → Nat → Int} (hf : FormOf n f) (hk : k < n) (hM : LLI K H a (Fm n f)) : SpR (sp_turned K C1 C2) [.ref a, .int (k : Int)] H (RM (Fm n (turnF f k))) := fun H1 e1 Q q E => by
  refine ⟨a, _, _, rfl, hM.mono e1, small_fm (by have := hf.2.1; omega), fun hF => absurd (fmI hf) hF, fun n' f' e hf' => ?_⟩
  obtain ⟨rfl, ee⟩ := fm_inj e
  refine ⟨fun j hj hjn H' p e hO => q _ H' e ⟨p, rfl, ?_⟩, fun z => by omega⟩
  have hji : j = k := by omega
  subst hji
  rw [turnF_ext hjn ee]
  exact hO
theorem er_turned {n k : Nat} {f : Nat → Nat → Int} (hf : FormOf n f) (hk : k < n) (hM : LLI K H a (Fm n f)) (h : EvA ta σ H [.ref a, .int (k : Int)]) : Er (tCall (sp_turned K C1 C2) [] E ta) σ H (RM (Fm n (turnF f k))) :=
  er_call mon_RM h (spr_turned hf hk hM)
theorem spv_is_form (hM : LLI K H a M) (hs : SmallM M) : SpV (sp_is_form K) [.ref a] H (.bl (dec (IsForm M))) := fun H1 e1 Q q E => ⟨a, M, rfl, hM.mono e1, hs.1, hs.2, fun b H2 e2 hb => by rw [dec_eq hb]; exact q H2 e2⟩
/-- a new list of lists is like another one -/
theorem spv_like {b : Addr} {N : List (List Int)} (hO : TLL H a M) (hN : LLI K H b N) (hs : SmallM M) : SpV (sp__law_like K) [.ref a, .ref b] H (.bl (decide (M = N))) := fun H1 e1 Q q E => ⟨a, b, M, N, rfl, hO.mono e1, hN.mono e1, hs, q⟩
theorem ev_likeR {t2 : TE} {b : Addr} {N : List (List Int)} (h1 : Er t1 σ H (RM M)) (h2 : Ev t2 σ H (.ref b)) (hN : LLI K H b N) (hs : SmallM M) : Ev (tCall (sp__law_like K) [] E (tCons t1 (tCons t2 tNil))) σ H (.bl (decide (M = N))) :=
  ev_callR1 h1 (ea_cons h2 ea_nil) fun v1 G1 G2 G3 g1 g2 g3 ⟨c, hc, hOc⟩ => by
    subst hc
    exact spv_like (hOc.tll.mono g3) (hN.mono ((g1.trans g2).trans g3)) hs
theorem er_turnedR {t2 : TE} {n k : Nat} {f : Nat → Nat → Int} (hf : FormOf n f) (hk : k < n) (h1 : Er t1 σ H (RM (Fm n f))) (h2 : Ev t2 σ H (.int (k : Int))) : Er (tCall (sp_turned K C1 C2) [] E (tCons t1 (tCons t2 tNil))) σ H (RM (Fm n (turnF f k))) :=
  er_callR1 mon_RM h1 (ea_cons h2 ea_nil) fun v1 G1 G2 G3 g1 g2 g3 ⟨c, hc, hOc⟩ => by
    subst hc
    exact spr_turned hf hk (hOc.lli.mono g3)
theorem ev_isFormR (h1 : Er t1 σ H (RM M)) (hs : SmallM M) : Ev (tCall (sp_is_form K) [] E (tCons t1 tNil)) σ H (.bl (dec (IsForm M))) :=
  ev_callR1 h1 ea_nil fun v1 G1 G2 G3 g1 g2 g3 ⟨c, hc, hOc⟩ => by
    subst hc
    exact spv_is_form (hOc.lli.mono g3) hs
end

/-! ### the rule of turning: skew, undone by itself -/
def Skew (n : Nat) (f : Nat → Nat → Int) : Prop := ∀ i j, i < n → j < n → f i j = 0 - f j i
theorem FormOf.skew {n : Nat} {f : Nat → Nat → Int} (h : FormOf n f) : Skew n f := fun i j hi hj => (h.2.2 i j hi hj).1
theorem thr_neg (a b : Int) : thr (0 - b) (0 - a) = 0 - thr a b := by
  unfold thr
  have e : (0 - b) * (0 - a) = a * b := by rw [Int.zero_sub, Int.zero_sub, Int.neg_mul_neg, Int.mul_comm]
  rw [e]
  by_cases h1 : 0 < a ∧ 0 < b
  · rw [if_neg (by omega), if_pos (by omega), if_pos h1]
  · by_cases h2 : a < 0 ∧ b < 0
    · rw [if_pos (by omega), if_neg h1, if_pos h2]
      omega
    · rw [if_neg (by omega), if_neg (by omega), if_neg h1, if_neg h2]
      rfl
theorem thr_neg' (a b : Int) : thr (0 - a) (0 - b) = 0 - thr a b := by
  unfold thr
  have e : (0 - a) * (0 - b) = a * b := by rw [Int.zero_sub, Int.zero_sub, Int.neg_mul_neg]
  rw [e]
  by_cases h1 : 0 < a ∧ 0 < b
  · rw [if_neg (by omega), if_pos (by omega), if_pos h1]
  · by_cases h2 : a < 0 ∧ b < 0
    · rw [if_pos (by omega), if_neg h1, if_pos h2]
      omega
    · rw [if_neg (by omega), if_neg (by omega), if_neg h1, if_neg h2]
      rfl
theorem turnF_skew {n k : Nat} {f : Nat → Nat → Int} (hs : Skew n f) (hk : k < n) : Skew n (turnF f k) := fun i j hi hj => by
  unfold turnF
  have h1 := hs i j hi hj
  by_cases h : i = k ∨ j = k
  · rw [if_pos h, if_pos (by omega)]
    omega
  · rw [if_neg h, if_neg (by omega), hs j k hj hk, hs k i hk hi, thr_neg]
    omega
theorem turnF_twice {n k : Nat} {f : Nat → Nat → Int} (hk : k < n) : Fm n (turnF (turnF f k) k) = Fm n f := fm_ext fun i j hi hj => by
  by_cases h : i = k ∨ j = k
  · show (if i = k ∨ j = k then 0 - turnF f k i j else _) = _
    rw [if_pos h]
    unfold turnF
    rw [if_pos h]
    omega
  · show (if i = k ∨ j = k then _ else turnF f k i j + thr (turnF f k i k) (turnF f k k j)) = _
    rw [if_neg h]
    have e1 : turnF f k i j = f i j + thr (f i k) (f k j) := by unfold turnF; rw [if_neg h]
    have e2 : turnF f k i k = 0 - f i k := by unfold turnF; rw [if_pos (.inr rfl)]
    have e3 : turnF f k k j = 0 - f k j := by unfold turnF; rw [if_pos (.inl rfl)]
    rw [e1, e2, e3, thr_neg']
    omega
end AT

namespace AT
open PySem PySem.Spec PyProof.Rows L2 Evl L2H
/-! ### which of the five classes an error is of -/
section
variable {K : Frag} {mg : Str → Option Value}
/-- the five -/
def five (T : Txt K mg) : List Addr := [T.c_NoForm, T.c_NoBox, T.c_NoNames, T.c_NoCut, T.c_TooMany]
def sp__law_which (T : Txt K mg) : Addr → Value → Option Addr → Sp := fun a c d vs H Q _ => ∃ (D : Addr) (i : Nat), (five T)[i]? = some D ∧ vs = [.ref a] ∧ c = .ref D ∧ d = none ∧ ∀ H', Ex H H' → Q (.int (i : Int)) H'
/-- the class D is the i-th of the five, and no other -/
structure Which (T : Txt K mg) (D : Addr) (i : Nat) : Prop where
  ex : ExcC K D
  v : PySem.W.kitOne K (.ref D) (.type "ValueError") = some true
  k0 : PySem.W.kitOne K (.ref D) (.ref T.c_NoForm) = some (decide (i = 0))
  k1 : PySem.W.kitOne K (.ref D) (.ref T.c_NoBox) = some (decide (i = 1))
  k2 : PySem.W.kitOne K (.ref D) (.ref T.c_NoNames) = some (decide (i = 2))
  k3 : PySem.W.kitOne K (.ref D) (.ref T.c_NoCut) = some (decide (i = 3))
  k4 : PySem.W.kitOne K (.ref D) (.ref T.c_TooMany) = some (decide (i = 4))
  lt : i < 5
theorem sub_ne {K : Frag} {C D x y : Addr} (h1 : PySem.W.subIn K (.ref C) (.ref C) = some true) (h2 : PySem.W.subIn K (.ref C) (.ref D) = some false) : C = D → false = true := fun e => by
  subst e
  rw [h1] at h2
  cases h2
theorem which_of {T : Txt K mg} {D : Addr} {i : Nat} (h : (five T)[i]? = some D) : Which T D i := by
  have e := h
  unfold five at e
  match i, e with
  | 0, e =>
    cases Option.some.inj e
    exact ⟨T.x_NoForm.excC, T.x_NoForm.kitV, T.x_NoForm.kit T.u_NoForm_NoForm (fun _ => rfl), T.x_NoBox.kit T.u_NoForm_NoBox (sub_ne (x := 0) (y := 0) T.u_NoForm_NoForm T.u_NoForm_NoBox), T.x_NoNames.kit T.u_NoForm_NoNames (sub_ne (x := 0) (y := 0) T.u_NoForm_NoForm T.u_NoForm_NoNames), T.x_NoCut.kit T.u_NoForm_NoCut (sub_ne (x := 0) (y := 0) T.u_NoForm_NoForm T.u_NoForm_NoCut), T.x_TooMany.kit T.u_NoForm_TooMany (sub_ne (x := 0) (y := 0) T.u_NoForm_NoForm T.u_NoForm_TooMany), by decide⟩
  | 1, e =>
    cases Option.some.inj e
    exact ⟨T.x_NoBox.excC, T.x_NoBox.kitV, T.x_NoForm.kit T.u_NoBox_NoForm (sub_ne (x := 0) (y := 0) T.u_NoBox_NoBox T.u_NoBox_NoForm), T.x_NoBox.kit T.u_NoBox_NoBox (fun _ => rfl), T.x_NoNames.kit T.u_NoBox_NoNames (sub_ne (x := 0) (y := 0) T.u_NoBox_NoBox T.u_NoBox_NoNames), T.x_NoCut.kit T.u_NoBox_NoCut (sub_ne (x := 0) (y := 0) T.u_NoBox_NoBox T.u_NoBox_NoCut), T.x_TooMany.kit T.u_NoBox_TooMany (sub_ne (x := 0) (y := 0) T.u_NoBox_NoBox T.u_NoBox_TooMany), by decide⟩
  | 2, e =>
    cases Option.some.inj e
    exact ⟨T.x_NoNames.excC, T.x_NoNames.kitV, T.x_NoForm.kit T.u_NoNames_NoForm (sub_ne (x := 0) (y := 0) T.u_NoNames_NoNames T.u_NoNames_NoForm), T.x_NoBox.kit T.u_NoNames_NoBox (sub_ne (x := 0) (y := 0) T.u_NoNames_NoNames T.u_NoNames_NoBox), T.x_NoNames.kit T.u_NoNames_NoNames (fun _ => rfl), T.x_NoCut.kit T.u_NoNames_NoCut (sub_ne (x := 0) (y := 0) T.u_NoNames_NoNames T.u_NoNames_NoCut), T.x_TooMany.kit T.u_NoNames_TooMany (sub_ne (x := 0) (y := 0) T.u_NoNames_NoNames T.u_NoNames_TooMany), by decide⟩
  | 3, e =>
    cases Option.some.inj e
    exact ⟨T.x_NoCut.excC, T.x_NoCut.kitV, T.x_NoForm.kit T.u_NoCut_NoForm (sub_ne (x := 0) (y := 0) T.u_NoCut_NoCut T.u_NoCut_NoForm), T.x_NoBox.kit T.u_NoCut_NoBox (sub_ne (x := 0) (y := 0) T.u_NoCut_NoCut T.u_NoCut_NoBox), T.x_NoNames.kit T.u_NoCut_NoNames (sub_ne (x := 0) (y := 0) T.u_NoCut_NoCut T.u_NoCut_NoNames), T.x_NoCut.kit T.u_NoCut_NoCut (fun _ => rfl), T.x_TooMany.kit T.u_NoCut_TooMany (sub_ne (x := 0) (y := 0) T.u_NoCut_NoCut T.u_NoCut_TooMany), by decide⟩
  | 4, e =>
    cases Option.some.inj e
    exact ⟨T.x_TooMany.excC, T.x_TooMany.kitV, T.x_NoForm.kit T.u_TooMany_NoForm (sub_ne (x := 0) (y := 0) T.u_TooMany_TooMany T.u_TooMany_NoForm), T.x_NoBox.kit T.u_TooMany_NoBox (sub_ne (x := 0) (y := 0) T.u_TooMany_TooMany T.u_TooMany_NoBox), T.x_NoNames.kit T.u_TooMany_NoNames (sub_ne (x := 0) (y := 0) T.u_TooMany_TooMany T.u_TooMany_NoNames), T.x_NoCut.kit T.u_TooMany_NoCut (sub_ne (x := 0) (y := 0) T.u_TooMany_TooMany T.u_TooMany_NoCut), T.x_TooMany.kit T.u_TooMany_TooMany (fun _ => rfl), by decide⟩
  | n + 5, e => exact absurd e (by simp)
end
section
variable {P : Program} {w : World} {K : Frag} {mg : Str → Option Value} {base : Heap} {k : Nat}
theorem ev_isE {σ : St} {H : Hp} {ta : TE} {D a : Addr} {c : V} {cv : Value} {b : Bool} (ha : Ev ta σ H (.ref a)) (hc : ∀ u, RelV c u → u = cv) (hk : PySem.W.kitOne K (.ref D) cv = some b) : Ev (tCB (rIsE K D a) (tCons ta (tCons (tC c) tNil))) σ H (.bl b) := fun H1 e Q q =>
  ha H1 e _ fun H2 e2 => ⟨c, cv, b, rfl, hc, hk, q H2 e2⟩
theorem ok__law_which (T : Txt K mg) : FnE P w K mg base (k + 1) T.f__law_which T.d__law_which ["e"] (sp__law_which T) := by
  refine Fun.okE T.F__law_which sc__law_which (fun a c d vs H Q E h => ?_) (fun cdv A outer s H vs Q E p c d hz hf hrE h => ?_)
  · obtain ⟨D, i, hD, rfl, _⟩ := h
    rfl
  · obtain ⟨D, i, hD, rfl, rfl, rfl, q⟩ := h
    have W := which_of hD
    have CD := W.ex
    obtain ⟨a, oe⟩ := p
    refine ⟨_, (pss_cons (ps_set (i := 1) sc__law_which.nd rfl (.inl rfl) (pe_lst (pa_cons (pe_callB (call_isP K List.mem_cons_self CD hz hf) rfl T.b_isinstance (by decide +kernel) (pa_cons (pv 0) (pa_cons (pe_glob (v := .ref T.c_NoForm) rfl T.g_NoForm rfl) pa_nil))) (pa_cons (pe_callB (call_isP K List.mem_cons_self CD hz hf) rfl T.b_isinstance (by decide +kernel) (pa_cons (pv 0) (pa_cons (pe_glob (v := .ref T.c_NoBox) rfl T.g_NoBox rfl) pa_nil))) (pa_cons (pe_callB (call_isP K List.mem_cons_self CD hz hf) rfl T.b_isinstance (by decide +kernel) (pa_cons (pv 0) (pa_cons (pe_glob (v := .ref T.c_NoNames) rfl T.g_NoNames rfl) pa_nil))) pa_nil)))))
      (pss_cons (ps_set (i := 1) sc__law_which.nd rfl (.inl rfl) (pe_op op_cat (pv 1) (pe_lst (pa_cons (pe_callB (call_isP K List.mem_cons_self CD hz hf) rfl T.b_isinstance (by decide +kernel) (pa_cons (pv 0) (pa_cons (pe_glob (v := .ref T.c_NoCut) rfl T.g_NoCut rfl) pa_nil))) (pa_cons (pe_callB (call_isP K List.mem_cons_self CD hz hf) rfl T.b_isinstance (by decide +kernel) (pa_cons (pv 0) (pa_cons (pe_glob (v := .ref T.c_TooMany) rfl T.g_TooMany rfl) pa_nil))) pa_nil)))))
      (pss_cons (ps_if (PW.pt (pw_or (pt_not (pt_val (pe_callB (call_isP K List.mem_cons_self CD hz hf) rfl T.b_isinstance (by decide +kernel) (pa_cons (pv 0) (pa_cons (pe_bltn (v := .ty "ValueError") rfl T.b_ValueError (by decide +kernel) rfl) pa_nil))))) (pw_or1 (pt_cmpR op_ne (bmK K PySem.F.plainAttrs_list PySem.F.slot_list_count PySem.F.type_list_count (mt_countB K) (pv 1) (pa_cons pe_bl pa_nil)) pe_int (nomark _)))))
        (pss_one (ps_ret pe_int))
        pss_nil)
      (pss_one (ps_ret (bmK K PySem.F.plainAttrs_list PySem.F.slot_list_index PySem.F.type_list_index (mt_indexK K) (pv 1) (pa_cons pe_bl pa_nil))))))), ?_⟩
    have hc : ∀ {C : Addr} u, RelV (.ref C) u → u = Value.ref C := fun u h => h
    have hv : ∀ u, RelV (.ty "ValueError") u → u = Value.type "ValueError" := fun u h => h
    refine q_asgL (xs := [.bl (decide (i = 0)), .bl (decide (i = 1)), .bl (decide (i = 2))]) (el_lst (ea_cons (ev_isE (ev_var rfl) hc W.k0) (ea_cons (ev_isE (ev_var rfl) hc W.k1) (ea_cons (ev_isE (ev_var rfl) hc W.k2) ea_nil))) (by show 3 ≤ 100000; decide)) fun r H1 hr e1 hr1 => ?_
    refine q_asgL (xs := [.bl (decide (i = 0)), .bl (decide (i = 1)), .bl (decide (i = 2))] ++ [.bl (decide (i = 3)), .bl (decide (i = 4))]) ?_ fun r2 H2 hr2 e2 hr22 => ?_
    · intro H2 e2 Q' q'
      refine ⟨.ref r, rfl, ?_⟩
      refine el_lst (ea_cons (ev_isE (ev_var rfl) hc W.k3) (ea_cons (ev_isE (ev_var rfl) hc W.k4) ea_nil)) (by show 2 ≤ 100000; decide) H2 (Ex.refl _) _ fun b H3 hb e3 hb3 => ?_
      exact ⟨r, b, _, _, rfl, rfl, (e2.trans e3) _ _ hr1, hb3, by show 3 + 2 ≤ sizeLine; decide, fun p hp => q' p _ (fresh_back e3 hp) (e3.trans (Ex.new hp)) upd_same⟩
    · have hk : ([.bl (decide (i = 0)), .bl (decide (i = 1)), .bl (decide (i = 2))] ++ [.bl (decide (i = 3)), .bl (decide (i = 4))] : List V) = [decide (i = 0), decide (i = 1), decide (i = 2), decide (i = 3), decide (i = 4)].map V.bl := rfl
      rw [hk] at hr22
      have hcnt : [decide (i = 0), decide (i = 1), decide (i = 2), decide (i = 3), decide (i = 4)].count true = 1 := by
        have := W.lt
        rcases (show i = 0 ∨ i = 1 ∨ i = 2 ∨ i = 3 ∨ i = 4 by omega) with rfl | rfl | rfl | rfl | rfl <;> rfl
      have hev : Ev (tBM K "list" (rCntB K) (tVar 1) (tCons (tC (.bl true)) tNil)) [some (.ref a), some (.ref r2)] H2 (.int ((1 : Nat) : Int)) := fun H3 e3 Q' q' => by
        refine ⟨.ref r2, rfl, .inl ⟨rfl, _, sq_of (e3 _ _ hr22)⟩, r2, _, true, rfl, rfl, sq_of (e3 _ _ hr22), ?_⟩
        rw [hcnt]
        exact q' H3 (Ex.refl _)
      refine q_when (et_or (et_not (et_test (ev_isE (ev_var rfl) hv W.v))) fun _ => et_test (ev_op hev ev_c (rv_ne rfl))) (fun hb H3 e3 => ?_) (fun hb H3 e3 => ?_)
      · exact absurd hb (by decide)
      · refine s_ret (v := .int (i : Int)) (fun H4 e4 Q' q' => ?_) fun H4 e4 => q H4 (((e1.trans e2).trans e3).trans e4)
        refine ⟨.ref r2, rfl, .inl ⟨rfl, _, sq_of ((e3.trans e4) _ _ hr22)⟩, r2, _, .bl true, i, .bl true, rfl, rfl, sq_of ((e3.trans e4) _ _ hr22), rfl, rfl, ?_, rfl, fun m z hm hz => ?_, q' H4 (Ex.refl _)⟩
        · have := W.lt
          rcases (show i = 0 ∨ i = 1 ∨ i = 2 ∨ i = 3 ∨ i = 4 by omega) with rfl | rfl | rfl | rfl | rfl <;> rfl
        · have := W.lt
          rcases (show i = 0 ∨ i = 1 ∨ i = 2 ∨ i = 3 ∨ i = 4 by omega) with rfl | rfl | rfl | rfl | rfl <;> rcases (show m = 0 ∨ m = 1 ∨ m = 2 ∨ m = 3 by omega) with rfl | rfl | rfl | rfl <;> first | omega | (cases hz; rfl)
end
end AT

/-! ## is_cut and the law's own -/
namespace AT
open PySem PySem.Spec PyProof.Rows L2 Evl
def lineB (c : Int) (p : Ln) : Bool := decide (0 ≤ p.1) && (decide (p.2 < c) && (decide (p.1 + 1 < p.2) && decide (p.2 - p.1 < c - 1)))
def crossB (p q : Ln) : Bool := (decide (p.1 < q.1) && (decide (q.1 < p.2) && decide (p.2 < q.2))) || (decide (q.1 < p.1) && (decide (p.1 < q.2) && decide (q.2 < p.2)))
def lnD (ls : List Ln) (k : Nat) : Ln := ls.getD k (0, 0)
def CutAt (c : Int) (ls : List Ln) (k : Nat) : Prop := lineB c (lnD ls k) = true ∧ (0 < k → ltP (lnD ls (k - 1)) (lnD ls k) = true) ∧ ∀ j, j < k → crossB (lnD ls j) (lnD ls k) = false
def IsCut (c : Int) (ls : List Ln) : Prop := 4 ≤ c ∧ c ≤ 9 ∧ (ls.length : Int) = c - 3 ∧ ∀ k, k < ls.length → CutAt c ls k
def sp_line_right (K : Frag) : Sp := fun vs H Q _ => ∃ (c : Int) (x : Addr) (p : Ln), vs = [.int c, .ref x] ∧ PT K H x p ∧ ∀ H', Ex H H' → Q (.bl (lineB c p)) H'
def sp_crossing (K : Frag) : Sp := fun vs H Q _ => ∃ (x y : Addr) (p q : Ln), vs = [.ref x, .ref y] ∧ PT K H x p ∧ PT K H y q ∧ ∀ H', Ex H H' → Q (.bl (crossB p q)) H'
def sp_is_cut (K : Frag) : Sp := fun vs H Q _ => ∃ (c : Int) (a : Addr) (ls : List Ln), vs = [.int c, .ref a] ∧ LP K H a ls ∧ ls.length ≤ 100 ∧ ∀ b H', Ex H H' → (b = true ↔ IsCut c ls) → Q (.bl b) H'
section
variable {K : Frag} {σ : St} {H : Hp} {ta tb tc td : TE} {x y z u : V}
theorem ev_chain3 {r r' r'' : R2} {k1 k2 k3 : Bool} (ha : Ev ta σ H x) (hb : Ev tb σ H y) (hr : RV r x y H (.bl k1)) (hc : Ev tc σ H z) (hr' : RV r' y z H (.bl k2)) (hd : Ev td σ H u) (hr'' : RV r'' z u H (.bl k3)) : Ev (tChain3 r r' r'' ta tb tc td) σ H (.bl (k1 && (k2 && k3))) := fun H1 e Q q =>
  ha H1 e _ fun H2 e2 => hb H2 (e.trans e2) _ fun H3 e3 => hr H3 ((e.trans e2).trans e3) _ fun H4 e4 => ⟨k1, rfl, by
    have e14 := ((e.trans e2).trans e3).trans e4
    cases k1 with
    | false => exact q H4 ((e2.trans e3).trans e4)
    | true =>
      show tc σ H4 _
      refine hc H4 e14 _ fun H5 e5 => hr' H5 (e14.trans e5) _ fun H6 e6 => ⟨k2, rfl, ?_⟩
      cases k2 with
      | false => exact q H6 ((((e2.trans e3).trans e4).trans e5).trans e6)
      | true =>
        show td σ H6 _
        exact hd H6 ((e14.trans e5).trans e6) _ fun H7 e7 => hr'' H7 (((e14.trans e5).trans e6).trans e7) _ fun H8 e8 => q H8 ((((((e2.trans e3).trans e4).trans e5).trans e6).trans e7).trans e8)⟩
theorem LP.gets {a : Addr} {ls : List Ln} {i : Nat} (h : LP K H a ls) (hi : i < ls.length) : ∃ x, RV (rIxL K) (.ref a) (.int (i : Int)) H (.ref x) ∧ PT K H x (lnD ls i) := h.at (by
  unfold lnD
  rw [List.getD_eq_getElem?_getD, List.getElem?_eq_getElem hi]
  rfl)
end
section
variable {P : Program} {w : World} {K : Frag} {mg : Str → Option Value} {base : Heap} {k : Nat}
theorem ok_line_right (T : Txt K mg) : FnOk P w K mg base CX0 (k + 1) T.f_line_right T.d_line_right ["corners", "line"] (sp_line_right K) := by
  refine T.F_line_right.ok sc_line_right (fun vs H Q E h => ?_) (fun cdv A outer s H vs Q E hr h => ?_)
  · obtain ⟨c, x, p, rfl, _⟩ := h
    rfl
  · obtain ⟨c, x, p, rfl, hp, q⟩ := h
    refine ⟨_, (pss_cons (ps_asg (pv 1) (pg_tupK K (n := 2) rfl (pgs_cons (pg_name (i := 2) sc_line_right.nd rfl (.inl rfl)) (pgs_cons (pg_name (i := 3) sc_line_right.nd rfl (.inl rfl)) pgs_nil))))
      (pss_one (ps_ret (pe_and (pe_cmpR op_le pe_int (pv 2) (nomark _)) (pe_and (pe_cmpR op_lt (pv 3) (pv 0) (nomark _)) (pe_and (pe_cmpR op_lt (pe_op op_add (pv 2) pe_int) (pv 3) (nomark _)) (pe_one (pe_cmpR op_lt (pe_op op_sub (pv 3) (pv 2)) (pe_op op_sub (pv 0) pe_int) (nomark _))))))))), ?_⟩
    refine ⟨.ref x, rfl, x, [.int p.1, .int p.2], rfl, hp, rfl, .int p.1, [.int p.2], rfl, .int p.2, [], rfl, rfl, ?_⟩
    dsimp only
    exact s_ret (ev_andV (ev_op ev_c (ev_var rfl) rv_I0) fun _ => ev_andV (ev_op (ev_var rfl) (ev_var rfl) rv_I0) fun _ => ev_andV (ev_op (ev_op (ev_var rfl) ev_c rv_I0) (ev_var rfl) rv_I0) fun _ => ev_op (ev_op (ev_var rfl) (ev_var rfl) rv_I0) (ev_op (ev_var rfl) ev_c rv_I0) rv_I0) fun H1 e1 => q H1 e1
theorem ok_crossing (T : Txt K mg) : FnOk P w K mg base CX0 (k + 1) T.f_crossing T.d_crossing ["line", "other"] (sp_crossing K) := by
  refine T.F_crossing.ok sc_crossing (fun vs H Q E h => ?_) (fun cdv A outer s H vs Q E hr h => ?_)
  · obtain ⟨x, y, p, q, rfl, _⟩ := h
    rfl
  · obtain ⟨x, y, p, r, rfl, hp, hq, q⟩ := h
    refine ⟨_, (pss_one (ps_ret (pe_or (pe_chain3 op_lt op_lt op_lt (pe_ix (ixT K) (pv 0) pe_int (fun _ _ => rfl)) (pe_ix (ixT K) (pv 1) pe_int (fun _ _ => rfl)) (pe_ix (ixT K) (pv 0) pe_int (fun _ _ => rfl)) (pe_ix (ixT K) (pv 1) pe_int (fun _ _ => rfl))) (pe_one (pe_chain3 op_lt op_lt op_lt (pe_ix (ixT K) (pv 1) pe_int (fun _ _ => rfl)) (pe_ix (ixT K) (pv 0) pe_int (fun _ _ => rfl)) (pe_ix (ixT K) (pv 1) pe_int (fun _ _ => rfl)) (pe_ix (ixT K) (pv 0) pe_int (fun _ _ => rfl))))))), ?_⟩
    have l1 : ∀ H1, Ex H H1 → Ev (tOp (rIxT K) (tVar 0) (tC (.int 0))) [some (V.ref x), some (.ref y)] H1 (.int p.1) := fun H1 e => ev_p1 (ev_var rfl) ev_c (hp.mono e)
    have l2 : ∀ H1, Ex H H1 → Ev (tOp (rIxT K) (tVar 0) (tC (.int 1))) [some (V.ref x), some (.ref y)] H1 (.int p.2) := fun H1 e => ev_p2 (ev_var rfl) ev_c (hp.mono e)
    have o1 : ∀ H1, Ex H H1 → Ev (tOp (rIxT K) (tVar 1) (tC (.int 0))) [some (V.ref x), some (.ref y)] H1 (.int r.1) := fun H1 e => ev_p1 (ev_var rfl) ev_c (hq.mono e)
    have o2 : ∀ H1, Ex H H1 → Ev (tOp (rIxT K) (tVar 1) (tC (.int 1))) [some (V.ref x), some (.ref y)] H1 (.int r.2) := fun H1 e => ev_p2 (ev_var rfl) ev_c (hq.mono e)
    have e0 := Ex.refl H
    exact s_ret (ev_orV (ev_chain3 (l1 H e0) (o1 H e0) rv_I0 (l2 H e0) rv_I0 (o2 H e0) rv_I0) fun _ => ev_chain3 (o1 H e0) (l1 H e0) rv_I0 (o2 H e0) rv_I0 (l2 H e0) rv_I0) fun H1 e1 => q H1 e1
theorem isCut_not {c : Int} {ls : List Ln} {k : Nat} (hk : k < ls.length) (h : ¬ CutAt c ls k) : ¬ IsCut c ls := fun z => h (z.2.2.2 k hk)
theorem ok_is_cut (T : Txt K mg) (G_line_right : FnOk P w K mg base CX0 k T.f_line_right T.d_line_right ["corners", "line"] (sp_line_right K)) (G_crossing : FnOk P w K mg base CX0 k T.f_crossing T.d_crossing ["line", "other"] (sp_crossing K)) : FnOk P w K mg base CX0 (k + 1) T.f_is_cut T.d_is_cut ["corners", "lines"] (sp_is_cut K) := by
  refine T.F_is_cut.ok sc_is_cut (fun vs H Q E h => ?_) (fun cdv A outer s H vs Q E hr h => ?_)
  · obtain ⟨c, a, ls, rfl, _⟩ := h
    rfl
  · obtain ⟨c, a, ls, rfl, hL, hl, q⟩ := h
    refine ⟨_, (pss_cons (ps_if (PW.pt (pw_or (pt_cmpR op_lt (pv 0) pe_int (nomark _)) (pw_or (pt_cmpR op_gt (pv 0) (pe_glob (v := .int 9) rfl T.m_MOST_CORNERS ⟨_, rfl⟩) (nomark _)) (pw_or1 (pt_cmpR op_ne (pe_callB (lenK K) rfl T.b_len PySem.boot_len (pa_cons (pv 1) pa_nil)) (pe_op op_sub (pv 0) pe_int) (nomark _))))))
        (pss_one (ps_ret pe_bl))
        pss_nil)
      (pss_cons (ps_for PassesOwn.never rfl (pi_range1 rfl T.b_range (pa_cons (pe_callB (lenK K) rfl T.b_len PySem.boot_len (pa_cons (pv 1) pa_nil)) pa_nil)) (pg_name (i := 2) sc_is_cut.nd rfl (.inl rfl))
        (pss_cons (ps_if (PW.pt (pw_or (pt_not (pt_val (pe_call G_line_right hr rfl T.m_line_right T.F_line_right.kp T.b_line_right .nil pass0 (pa_cons (pv 0) (pa_cons (pe_ix (ixL K) (pv 1) (pv 2) (fun _ _ => rfl)) pa_nil))))) (pw_or1 (PW.pt (pw_and (pt_cmpR op_gt (pv 2) pe_int (nomark _)) (pw_and1 (pt_cmpR (geDK K hr.units) (pe_ix (ixL K) (pv 1) (pe_op op_sub (pv 2) pe_int) (fun _ _ => rfl)) (pe_ix (ixL K) (pv 1) (pv 2) (fun _ _ => rfl)) (nomark _))))))))
        (pss_one (ps_ret pe_bl))
        pss_nil)
      (pss_one (ps_for PassesOwn.never rfl (pi_range1 rfl T.b_range (pa_cons (pv 2) pa_nil)) (pg_name (i := 3) sc_is_cut.nd rfl (.inl rfl))
        (pss_one (ps_if (pt_val (pe_call G_crossing hr rfl T.m_crossing T.F_crossing.kp T.b_crossing .nil pass0 (pa_cons (pe_ix (ixL K) (pv 1) (pv 3) (fun _ _ => rfl)) (pa_cons (pe_ix (ixL K) (pv 1) (pv 2) (fun _ _ => rfl)) pa_nil))))
        (pss_one (ps_ret pe_bl))
        pss_nil))))))
      (pss_one (ps_ret pe_bl)))), ?_⟩
    refine q_when (et_or (et_test (ev_op (ev_var rfl) ev_c rv_I0)) fun _ => et_or (et_test (ev_op (ev_var rfl) ev_c rv_I0)) fun _ => et_test (ev_op (ev_lenLP (ev_var rfl) hL) (ev_op (ev_var rfl) ev_c rv_I0) (rv_ne rfl))) (fun hb H1 e1 => s_ret ev_c fun H2 e2 => q false H2 (e1.trans e2) (bfF fun z => ?_)) (fun hb H1 e1 => ?_)
    · simp only [Bool.or_eq_true, decide_eq_true_eq, Bool.not_eq_true', decide_eq_false_iff_not] at hb
      obtain ⟨z1, z2, z3, _⟩ := z
      rcases hb with hb | hb | hb
      · omega
      · omega
      · exact hb (congrArg V.int z3)
    · simp only [Bool.or_eq_false_iff, decide_eq_false_iff_not, Bool.not_eq_false', decide_eq_true_eq] at hb
      obtain ⟨hb1, hb2, hb3⟩ := hb
      have hlc : (ls.length : Int) = c - 3 := by injection hb3
      refine q_forR1 (n := (ls.length : Int)) (ea_cons (ev_lenLP (ev_var rfl) (hL.mono e1)) ea_nil) (by omega) (fun i σ' H' => ∃ x2 x3, σ' = [some (.int c), some (.ref a), x2, x3] ∧ Ex H H' ∧ ∀ k', k' < i → CutAt c ls k') (fun H2 e2 => ⟨_, _, rfl, e1.trans e2, fun k' h => absurd h (Nat.not_lt_zero _)⟩) (fun i σ' H' hi hP => ?_) (fun σ' H' hP => ?_)
      · obtain ⟨x2, x3, rfl, eH, hc⟩ := hP
        have hil : i < ls.length := by omega
        obtain ⟨x, hx, hxp⟩ := (hL.mono eH).gets hil
        refine q_when (b := !lineB c (lnD ls i) || (decide (0 < i) && !ltP (lnD ls (i - 1)) (lnD ls i))) (et_or (et_not (et_test (ev_call (z := .bl (lineB c (lnD ls i))) (ea_cons (ev_var (v := .int c) rfl) (ea_cons (ev_op (ev_var (v := .ref a) rfl) (ev_var (v := .int (i : Int)) rfl) hx) ea_nil)) fun G1 g1 Q' q' E' => ⟨c, x, _, rfl, hxp.mono g1, q'⟩))) fun _ => et_and (et_is (et_test (ev_op (ev_var (v := .int (i : Int)) rfl) ev_c rv_I0)) (decide_eq_decide.mpr (by omega))) fun h0 => ?_) (fun hb H2 e2 => s_ret ev_c fun H3 e3 => q false H3 ((eH.trans e2).trans e3) (bfF (isCut_not hil fun z => ?_))) (fun hb H2 e2 => ?_)
        · have h0 : 0 < i := by simpa using h0
          obtain ⟨y, hy, hyp⟩ := (hL.mono eH).gets (i := i - 1) (by omega)
          have hm1 : (i : Int) - 1 = ((i - 1 : Nat) : Int) := by omega
          have hix : Ev (tOp (rI0 fun i j => .int (i - j)) (tVar 2) (tC (.int 1))) [some (.int c), some (V.ref a), some (.int (i : Int)), x3] H' (.int ((i - 1 : Nat) : Int)) := by
            have := ev_op (σ := [some (.int c), some (V.ref a), some (.int (i : Int)), x3]) (H := H') (ev_var (v := .int (i : Int)) (i := 2) rfl) (ev_c (v := .int 1)) (rv_I0 (g := fun i j => .int (i - j)))
            rw [hm1] at this
            exact this
          exact et_test (ev_op (ev_op (ev_var (v := .ref a) rfl) hix hy) (ev_op (ev_var (v := .ref a) rfl) (ev_var (v := .int (i : Int)) rfl) hx) (rv_geP hyp hxp))
        · simp only [Bool.or_eq_true, Bool.not_eq_true', Bool.and_eq_true, decide_eq_true_eq] at hb
          rcases hb with hb | ⟨hb, hb'⟩
          · rw [z.1] at hb; cases hb
          · rw [z.2.1 hb] at hb'; cases hb'
        · simp only [Bool.or_eq_false_iff, Bool.not_eq_false', Bool.and_eq_false_iff, decide_eq_false_iff_not] at hb
          obtain ⟨hb1, hb2⟩ := hb
          refine s_forR1 (n := (i : Int)) (ea_cons (ev_var rfl) ea_nil) (by omega) (fun j σ' H' => ∃ x3, σ' = [some (.int c), some (.ref a), some (.int (i : Int)), x3] ∧ Ex H H' ∧ ∀ j', j' < j → crossB (lnD ls j') (lnD ls i) = false) (fun H3 e3 => ⟨_, rfl, (eH.trans e2).trans e3, fun j' h => absurd h (Nat.not_lt_zero _)⟩) (fun j σ' H3 hj hP => ?_) (fun σ' H3 hP => ?_)
          · obtain ⟨x3, rfl, e3, hj'⟩ := hP
            obtain ⟨x, hx, hxp⟩ := (hL.mono e3).gets hil
            obtain ⟨y, hy, hyp⟩ := (hL.mono e3).gets (i := j) (by omega)
            refine s_when (et_test (ev_call (z := .bl (crossB (lnD ls j) (lnD ls i))) (ea_cons (ev_op (ev_var (v := .ref a) rfl) (ev_var (v := .int (j : Int)) rfl) hy) (ea_cons (ev_op (ev_var (v := .ref a) rfl) (ev_var (v := .int (i : Int)) rfl) hx) ea_nil)) fun G1 g1 Q' q' E' => ⟨y, x, _, _, rfl, hyp.mono g1, hxp.mono g1, q'⟩)) (fun hcr H4 e4 => s_ret ev_c fun H5 e5 => q false H5 ((e3.trans e4).trans e5) (bfF (isCut_not hil fun z => ?_))) (fun hcr H4 e4 => ⟨_, rfl, e3.trans e4, fun j' h => ?_⟩)
            · rw [z.2.2 j (by omega)] at hcr
              cases hcr
            · by_cases e : j' = j
              · rw [e]; exact hcr
              · exact hj' j' (by omega)
          · obtain ⟨x3, rfl, e3, hj'⟩ := hP
            refine ⟨_, _, rfl, e3, fun k' h => ?_⟩
            by_cases e : k' = i
            · subst e
              exact ⟨hb1, fun h0 => hb2.resolve_left fun z => z h0, fun j hj => hj' j (by simpa using hj)⟩
            · exact hc k' (by omega)
      · obtain ⟨x2, x3, rfl, eH, hc⟩ := hP
        exact s_ret ev_c fun H3 e3 => q true H3 (eH.trans e3) (bfT ⟨by omega, by omega, hlc, fun k' h => hc k' (by simpa using h)⟩)
theorem inV_two (d a b : Int) : inV (.int d) [.int a, .int b] = (decide (d = a) || decide (d = b)) := by
  simp only [inV, List.any_cons, List.any_nil, eqV, Bool.or_false]
  by_cases h1 : a = d
  · simp [h1]
  · by_cases h2 : b = d
    · simp [h2]
    · have h3 : ¬ d = a := fun z => h1 z.symm
      have h4 : ¬ d = b := fun z => h2 z.symm
      simp [h1, h2, h3, h4]
theorem lineB_law (c : Int) (p : Ln) : ((decide (0 ≤ p.1) && (decide (p.1 < p.2) && decide (p.2 < c))) && !(decide (p.2 - p.1 = 1) || decide (p.2 - p.1 = c - 1))) = lineB c p := by
  unfold lineB
  rw [Bool.eq_iff_iff]
  simp only [Bool.and_eq_true, decide_eq_true_eq, Bool.not_eq_true', Bool.or_eq_false_iff, decide_eq_false_iff_not]
  omega
theorem ok__law_line (T : Txt K mg) : FnOk P w K mg base CX0 (k + 1) T.f__law_line T.d__law_line ["corners", "line"] (sp_line_right K) := by
  refine T.F__law_line.ok sc__law_line (fun vs H Q E h => ?_) (fun cdv A outer s H vs Q E hr h => ?_)
  · obtain ⟨c, x, p, rfl, _⟩ := h
    rfl
  · obtain ⟨c, x, p, rfl, hp, q⟩ := h
    refine ⟨_, (pss_cons (ps_asg (pv 1) (pg_tupK K (n := 2) rfl (pgs_cons (pg_name (i := 2) sc__law_line.nd rfl (.inl rfl)) (pgs_cons (pg_name (i := 3) sc__law_line.nd rfl (.inl rfl)) pgs_nil))))
      (pss_one (ps_ret (pe_and (pe_chain3 op_le op_lt op_lt pe_int (pv 2) (pv 3) (pv 0)) (pe_one (pe_cmpR (ninK K) (pe_op op_sub (pv 3) (pv 2)) (pe_tup (pa_cons pe_int (pa_cons (pe_op op_sub (pv 0) pe_int) pa_nil))) rfl)))))), ?_⟩
    refine ⟨.ref x, rfl, x, [.int p.1, .int p.2], rfl, hp, rfl, .int p.1, [.int p.2], rfl, .int p.2, [], rfl, rfl, ?_⟩
    dsimp only
    refine s_ret (ev_andV (ev_chain3 ev_c (ev_var rfl) rv_I0 (ev_var rfl) rv_I0 (ev_var rfl) rv_I0) fun _ => ev_niU (ev_op (ev_var rfl) (ev_var rfl) rv_I0) (eu_tup (ea_cons ev_c (ea_cons (ev_op (ev_var rfl) ev_c rv_I0) ea_nil)) (by show 2 ≤ 100000; decide)) rfl rfl) fun H1 e1 => ?_
    rw [inV_two, lineB_law]
    exact q H1 e1
theorem ok__law_cross (T : Txt K mg) : FnOk P w K mg base CX0 (k + 1) T.f__law_cross T.d__law_cross ["line", "other"] (sp_crossing K) := by
  refine T.F__law_cross.ok sc__law_cross (fun vs H Q E h => ?_) (fun cdv A outer s H vs Q E hr h => ?_)
  · obtain ⟨x, y, p, q, rfl, _⟩ := h
    rfl
  · obtain ⟨x, y, p, r, rfl, hp, hq, q⟩ := h
    refine ⟨_, (pss_one (ps_ret (pe_or (pe_chain3 op_lt op_lt op_lt (pe_ix (ixT K) (pv 0) pe_int (fun _ _ => rfl)) (pe_ix (ixT K) (pv 1) pe_int (fun _ _ => rfl)) (pe_ix (ixT K) (pv 0) pe_int (fun _ _ => rfl)) (pe_ix (ixT K) (pv 1) pe_int (fun _ _ => rfl))) (pe_one (pe_chain3 op_lt op_lt op_lt (pe_ix (ixT K) (pv 1) pe_int (fun _ _ => rfl)) (pe_ix (ixT K) (pv 0) pe_int (fun _ _ => rfl)) (pe_ix (ixT K) (pv 1) pe_int (fun _ _ => rfl)) (pe_ix (ixT K) (pv 0) pe_int (fun _ _ => rfl))))))), ?_⟩
    have l1 : ∀ H1, Ex H H1 → Ev (tOp (rIxT K) (tVar 0) (tC (.int 0))) [some (V.ref x), some (.ref y)] H1 (.int p.1) := fun H1 e => ev_p1 (ev_var rfl) ev_c (hp.mono e)
    have l2 : ∀ H1, Ex H H1 → Ev (tOp (rIxT K) (tVar 0) (tC (.int 1))) [some (V.ref x), some (.ref y)] H1 (.int p.2) := fun H1 e => ev_p2 (ev_var rfl) ev_c (hp.mono e)
    have o1 : ∀ H1, Ex H H1 → Ev (tOp (rIxT K) (tVar 1) (tC (.int 0))) [some (V.ref x), some (.ref y)] H1 (.int r.1) := fun H1 e => ev_p1 (ev_var rfl) ev_c (hq.mono e)
    have o2 : ∀ H1, Ex H H1 → Ev (tOp (rIxT K) (tVar 1) (tC (.int 1))) [some (V.ref x), some (.ref y)] H1 (.int r.2) := fun H1 e => ev_p2 (ev_var rfl) ev_c (hq.mono e)
    have e0 := Ex.refl H
    exact s_ret (ev_orV (ev_chain3 (l1 H e0) (o1 H e0) rv_I0 (l2 H e0) rv_I0 (o2 H e0) rv_I0) fun _ => ev_chain3 (o1 H e0) (l1 H e0) rv_I0 (o2 H e0) rv_I0 (l2 H e0) rv_I0) fun H1 e1 => q H1 e1
def sp_must_cut (K : Frag) (C : Addr) : Sp := fun vs H Q E => ∃ (c : Int) (a : Addr) (ls : List Ln), vs = [.int c, .ref a] ∧ LP K H a ls ∧ ls.length ≤ 100 ∧ ∀ H', Ex H H' → (IsCut c ls → Q .non H') ∧ (¬ IsCut c ls → E (.ref C) none H')
theorem ok_must_cut (T : Txt K mg) (G_is_cut : FnOk P w K mg base CX0 k T.f_is_cut T.d_is_cut ["corners", "lines"] (sp_is_cut K)) : FnOk P w K mg base (L2.CX P w) (k + 1) T.f_must_cut T.d_must_cut ["corners", "lines"] (sp_must_cut K T.c_NoCut) := by
  refine T.F_must_cut.okX sc_must_cut (fun vs H Q E h => ?_) (fun cdv A outer s H vs Q E hr h => ?_)
  · obtain ⟨c, a, ls, rfl, _⟩ := h
    rfl
  · obtain ⟨c, a, ls, rfl, hL, hl, q⟩ := h
    refine ⟨_, (pss_one (ps_if (pt_not (pt_val (pe_call G_is_cut hr rfl T.m_is_cut T.F_is_cut.kp T.b_is_cut .nil pass0 (pa_cons (pv 0) (pa_cons (pv 1) pa_nil)))))
        (pss_one (ps_raise rfl (takes_of rfl rfl rfl rfl) (pmk_own PySem.F.excBase_ValueError T.x_NoCut.xn T.x_NoCut.g T.x_NoCut.kp (raises_own T.x_NoCut.bs T.x_NoCut.ty) rfl)))
        pss_nil)), ?_⟩
    refine ⟨.int c, rfl, .ref a, rfl, c, a, ls, rfl, hL, hl, fun b H1 e1 hb => ?_⟩
    refine ⟨b, rfl, ?_⟩
    cases b with
    | true => exact (q H1 e1).1 (hb.mp rfl)
    | false => exact (q H1 e1).2 fun z => Bool.false_ne_true (hb.mpr z)
theorem ok__law_is_cut (T : Txt K mg) (G__law_line : FnOk P w K mg base CX0 k T.f__law_line T.d__law_line ["corners", "line"] (sp_line_right K)) (G__law_cross : FnOk P w K mg base CX0 k T.f__law_cross T.d__law_cross ["line", "other"] (sp_crossing K)) : FnOk P w K mg base CX0 (k + 1) T.f__law_is_cut T.d__law_is_cut ["corners", "lines"] (sp_is_cut K) := by
  refine T.F__law_is_cut.ok sc__law_is_cut (fun vs H Q E h => ?_) (fun cdv A outer s H vs Q E hr h => ?_)
  · obtain ⟨c, a, ls, rfl, _⟩ := h
    rfl
  · obtain ⟨c, a, ls, rfl, hL, hl, q⟩ := h
    refine ⟨_, (pss_cons (ps_if (PW.pt (pw_or (pt_not (pt_chain op_le op_le pe_int (pv 0) pe_int)) (pw_or1 (pt_cmpR op_ne (pe_callB (lenK K) rfl T.b_len PySem.boot_len (pa_cons (pv 1) pa_nil)) (pe_op op_sub (pv 0) pe_int) (nomark _)))))
        (pss_one (ps_ret pe_bl))
        pss_nil)
      (pss_cons (ps_for PassesOwn.never rfl (pi_range1 rfl T.b_range (pa_cons (pe_callB (lenK K) rfl T.b_len PySem.boot_len (pa_cons (pv 1) pa_nil)) pa_nil)) (pg_name (i := 2) sc__law_is_cut.nd rfl (.inr rfl))
        (pss_cons (ps_if (PW.pt (pw_or (pt_not (pt_val (pe_call G__law_line hr rfl T.m__law_line T.F__law_line.kp T.b__law_line .nil pass0 (pa_cons (pv 0) (pa_cons (pe_ix (ixL K) (pv 1) (pv 2) (fun _ _ => rfl)) pa_nil))))) (pw_or1 (PW.pt (pw_and (pt_cmpR op_gt (pv 2) pe_int (nomark _)) (pw_and1 (pt_cmpR (geDK K hr.units) (pe_ix (ixL K) (pv 1) (pe_op op_sub (pv 2) pe_int) (fun _ _ => rfl)) (pe_ix (ixL K) (pv 1) (pv 2) (fun _ _ => rfl)) (nomark _))))))))
        (pss_one (ps_ret pe_bl))
        pss_nil)
      (pss_one (ps_if (pt_cmpR op_gt (pe_callB (lenK K) rfl T.b_len PySem.boot_len (pa_cons (pe_lc (own := [("j", 3)]) rfl sc__law_is_cut.nd (pi_range1 rfl T.b_range (pa_cons (pv 2) pa_nil)) (blkOk_by (own := [("j", 3)]) (N := N__law_is_cut) (sc := defScope s__law_is_cut) (by decide +kernel)) (fun _ _ _ _ _ => (pg_name (i := 3) sc__law_is_cut.nd rfl (.inl rfl))) (fun _ _ _ _ _ => (pts_one (pt_val (pe_call G__law_cross hr rfl T.m__law_cross T.F__law_cross.kp T.b__law_cross .nil pass0 (pa_cons (pe_ix (ixL K) (pv 1) (pv 3) (fun _ _ => rfl)) (pa_cons (pe_ix (ixL K) (pv 1) (pv 2) (fun _ _ => rfl)) pa_nil)))))) (fun _ _ _ _ _ => (pv 3))) pa_nil)) pe_int (nomark _))
        (pss_one (ps_ret pe_bl))
        pss_nil))))
      (pss_one (ps_ret pe_bl)))), ?_⟩
    refine q_when (et_or (et_not (et_test (ev_chain ev_c (ev_var rfl) rv_I0 ev_c rv_I0))) fun _ => et_test (ev_op (ev_lenLP (ev_var rfl) hL) (ev_op (ev_var rfl) ev_c rv_I0) (rv_ne rfl))) (fun hb H1 e1 => s_ret ev_c fun H2 e2 => q false H2 (e1.trans e2) (bfF fun z => ?_)) (fun hb H1 e1 => ?_)
    · simp only [Bool.or_eq_true, Bool.and_eq_false_iff, decide_eq_true_eq, Bool.not_eq_true', decide_eq_false_iff_not] at hb
      obtain ⟨z1, z2, z3, _⟩ := z
      rcases hb with hb | hb
      · omega
      · exact hb (congrArg V.int z3)
    · simp only [Bool.or_eq_false_iff, Bool.and_eq_true, decide_eq_false_iff_not, Bool.not_eq_false', decide_eq_true_eq] at hb
      obtain ⟨hb1, hb3⟩ := hb
      have hlc : (ls.length : Int) = c - 3 := by injection hb3
      refine q_forR1 (n := (ls.length : Int)) (ea_cons (ev_lenLP (ev_var rfl) (hL.mono e1)) ea_nil) (by omega) (fun i σ' H' => ∃ x2, σ' = [some (.int c), some (.ref a), x2, none] ∧ Ex H H' ∧ ∀ k', k' < i → CutAt c ls k') (fun H2 e2 => ⟨_, rfl, e1.trans e2, fun k' h => absurd h (Nat.not_lt_zero _)⟩) (fun i σ' H' hi hP => ?_) (fun σ' H' hP => ?_)
      · obtain ⟨x2, rfl, eH, hc⟩ := hP
        have hil : i < ls.length := by omega
        obtain ⟨x, hx, hxp⟩ := (hL.mono eH).gets hil
        refine q_when (b := !lineB c (lnD ls i) || (decide (0 < i) && !ltP (lnD ls (i - 1)) (lnD ls i))) (et_or (et_not (et_test (ev_call (z := .bl (lineB c (lnD ls i))) (ea_cons (ev_var (v := .int c) rfl) (ea_cons (ev_op (ev_var (v := .ref a) rfl) (ev_var (v := .int (i : Int)) rfl) hx) ea_nil)) fun G1 g1 Q' q' E' => ⟨c, x, _, rfl, hxp.mono g1, q'⟩))) fun _ => et_and (et_is (et_test (ev_op (ev_var (v := .int (i : Int)) rfl) ev_c rv_I0)) (decide_eq_decide.mpr (by omega))) fun h0 => ?_) (fun hb H2 e2 => s_ret ev_c fun H3 e3 => q false H3 ((eH.trans e2).trans e3) (bfF (isCut_not hil fun z => ?_))) (fun hb H2 e2 => ?_)
        · have h0 : 0 < i := by simpa using h0
          obtain ⟨y, hy, hyp⟩ := (hL.mono eH).gets (i := i - 1) (by omega)
          have hm1 : (i : Int) - 1 = ((i - 1 : Nat) : Int) := by omega
          have hix : Ev (tOp (rI0 fun i j => .int (i - j)) (tVar 2) (tC (.int 1))) [some (.int c), some (V.ref a), some (.int (i : Int)), none] H' (.int ((i - 1 : Nat) : Int)) := by
            have := ev_op (σ := [some (.int c), some (V.ref a), some (.int (i : Int)), none]) (H := H') (ev_var (v := .int (i : Int)) (i := 2) rfl) (ev_c (v := .int 1)) (rv_I0 (g := fun i j => .int (i - j)))
            rw [hm1] at this
            exact this
          exact et_test (ev_op (ev_op (ev_var (v := .ref a) rfl) hix hy) (ev_op (ev_var (v := .ref a) rfl) (ev_var (v := .int (i : Int)) rfl) hx) (rv_geP hyp hxp))
        · simp only [Bool.or_eq_true, Bool.not_eq_true', Bool.and_eq_true, decide_eq_true_eq] at hb
          rcases hb with hb | ⟨hb, hb'⟩
          · rw [z.1] at hb; cases hb
          · rw [z.2.1 hb] at hb'; cases hb'
        · simp only [Bool.or_eq_false_iff, Bool.not_eq_false', Bool.and_eq_false_iff, decide_eq_false_iff_not] at hb
          obtain ⟨hb1, hb2⟩ := hb
          have hL2 := (hL.mono eH).mono e2
          have hcnt : EvL (tLc (iRng1 (tCons (tVar 2) tNil)) (gName 3) (tTest (tCall (sp_crossing K) [] E0 (tCons (tOp (rIxL K) (tVar 1) (tVar 3)) (tCons (tOp (rIxL K) (tVar 1) (tVar 2)) tNil)))) (tVar 3) [3]) [some (.int c), some (V.ref a), some (.int (i : Int)), none] H2 (given i (fun j => crossB (lnD ls j) (lnD ls i)) fun j => .int (j : Int)) := by
            have := el_lcR1 (σ := [some (.int c), some (V.ref a), some (.int (i : Int)), none]) (H := H2) (ta := tCons (tVar 2) tNil) (te := tVar 3) (t := tTest (tCall (sp_crossing K) [] E0 (tCons (tOp (rIxL K) (tVar 1) (tVar 3)) (tCons (tOp (rIxL K) (tVar 1) (tVar 2)) tNil)))) (j := 3) (vs := [3]) (n := (i : Int)) (fun j => crossB (lnD ls j) (lnD ls i)) (fun j => .int (j : Int)) (ea_cons (ev_var rfl) ea_nil) (by omega) (fun _ => rfl)
              (fun j G1 g1 hj => by
                obtain ⟨x, hx, hxp⟩ := (hL2.mono g1).gets hil
                obtain ⟨y, hy, hyp⟩ := (hL2.mono g1).gets (i := j) (by omega)
                exact et_test (ev_call (z := .bl (crossB (lnD ls j) (lnD ls i))) (ea_cons (ev_op (ev_var (v := .ref a) rfl) (ev_var (v := .int (j : Int)) rfl) hy) (ea_cons (ev_op (ev_var (v := .ref a) rfl) (ev_var (v := .int (i : Int)) rfl) hx) ea_nil)) fun G2 g2 Q' q' E' => ⟨y, x, _, _, rfl, hyp.mono g2, hxp.mono g2, q'⟩))
              (fun j G1 g1 hj _ => ev_var rfl)
            rw [Int.toNat_natCast] at this
            exact this
          refine s_when (et_test (ev_op (ev_lenN hcnt) ev_c rv_I0)) (fun hg H4 e4 => s_ret ev_c fun H5 e5 => q false H5 (((eH.trans e2).trans e4).trans e5) (bfF (isCut_not hil fun z => ?_))) (fun hg H4 e4 => ⟨_, rfl, (eH.trans e2).trans e4, fun k' h => ?_⟩)
          · rw [decide_eq_true_eq, given_pos] at hg
            obtain ⟨j, hj, hcr⟩ := hg
            rw [z.2.2 j hj] at hcr
            cases hcr
          · rw [decide_eq_false_iff_not, given_pos] at hg
            by_cases e : k' = i
            · subst e
              exact ⟨hb1, fun h0 => hb2.resolve_left fun z => z h0, fun j hj => by
                cases hcr : crossB (lnD ls j) (lnD ls k') with
                | false => rfl
                | true => exact absurd ⟨j, hj, hcr⟩ hg⟩
            · exact hc k' (by omega)
      · obtain ⟨x2, rfl, eH, hc⟩ := hP
        exact s_ret ev_c fun H3 e3 => q true H3 (eH.trans e3) (bfT ⟨by omega, by omega, hlc, fun k' h => hc k' (by simpa using h)⟩)
end
end AT

/-! ## sides, triangles -/
namespace AT
open PySem PySem.Spec PyProof.Rows L2 Evl
def sideB (c : Int) (ls : List Ln) (i j : Int) : Bool := decide (j - i = 1) || (decide (j - i = c - 1) || decide ((i, j) ∈ ls))
def sp_is_side (K : Frag) : Sp := fun vs H Q _ => ∃ (c : Int) (a : Addr) (ls : List Ln) (i j : Int), vs = [.int c, .ref a, .int i, .int j] ∧ LP K H a ls ∧ ∀ H', Ex H H' → Q (.bl (sideB c ls i j)) H'
theorem ev_opUL {r : R2} {σ : St} {H : Hp} {ta tb : TE} {xs : List V} {y z : V} (ha : EvU ta σ H xs) (hb : Ev tb σ H y) (hr : ∀ p H1, H1 p = some (.tup xs) → Ex H H1 → RV r (.ref p) y H1 z) : Ev (tOp r ta tb) σ H z := fun H1 e Q q =>
  ha H1 e _ fun p H2 hp e2 hp2 => hb H2 (e.trans e2) _ fun H3 e3 => hr p H3 (e3 _ _ hp2) ((e.trans e2).trans e3) H3 (Ex.refl _) Q fun H4 e4 => q H4 ((e2.trans e3).trans e4)
section
variable {P : Program} {w : World} {K : Frag} {mg : Str → Option Value} {base : Heap} {k : Nat}
theorem int_inj {a b : Int} : decide (V.int a = V.int b) = decide (a = b) := decide_eq_decide.mpr ⟨fun h => by injection h, fun h => by rw [h]⟩
theorem ok_is_side (T : Txt K mg) : FnOk P w K mg base CX0 (k + 1) T.f_is_side T.d_is_side ["corners", "lines", "one", "other"] (sp_is_side K) := by
  refine T.F_is_side.ok sc_is_side (fun vs H Q E h => ?_) (fun cdv A outer s H vs Q E hr h => ?_)
  · obtain ⟨c, a, ls, i, j, rfl, _⟩ := h
    rfl
  · obtain ⟨c, a, ls, i, j, rfl, hL, q⟩ := h
    refine ⟨_, (pss_one (ps_ret (pe_or (pe_cmpR op_eq (pe_op op_sub (pv 3) (pv 2)) pe_int (nomark _)) (pe_or (pe_cmpR op_eq (pe_op op_sub (pv 3) (pv 2)) (pe_op op_sub (pv 0) pe_int) (nomark _)) (pe_one (pe_cmpR (inDK K hr.units65) (pe_tup (pa_cons (pv 2) (pa_cons (pv 3) pa_nil))) (pv 1) rfl)))))), ?_⟩
    refine s_ret (ev_orV (ev_op (ev_op (ev_var rfl) (ev_var rfl) rv_I0) ev_c (rv_eq rfl)) fun _ => ev_orV (ev_op (ev_op (ev_var rfl) (ev_var rfl) rv_I0) (ev_op (ev_var rfl) ev_c rv_I0) (rv_eq rfl)) fun _ => ev_opUL (eu_tup (ea_cons (ev_var rfl) (ea_cons (ev_var rfl) ea_nil)) (by show 2 ≤ 100000; decide)) (ev_var (v := .ref a) rfl) fun p H1 hp e1 => rv_inP (p := (i, j)) (st_of hp) (hL.mono e1)) fun H1 e1 => ?_
    rw [int_inj, int_inj]
    exact q H1 e1
end
/-! ### triples -/
abbrev Tr := Nat × Nat × Nat
def trV (t : Tr) : List V := [.int (t.1 : Int), .int (t.2.1 : Int), .int (t.2.2 : Int)]
def OLT (H0 H : Hp) (p : Addr) (ts : List Tr) : Prop := H0 p = none ∧ ∃ as : List Addr, H p = some (.lst (as.map V.ref)) ∧ Paired (fun x t => H x = some (.tup (trV t))) as ts
theorem OLT.mono {H0 H H1 : Hp} {p : Addr} {ts : List Tr} (e : Ex H H1) (h : OLT H0 H p ts) : OLT H0 H1 p ts := by
  obtain ⟨h0, as, h1, h2⟩ := h
  exact ⟨h0, as, e _ _ h1, paired_mono h2 fun _ _ z => e _ _ z⟩
theorem OLT.back {H0 H H1 : Hp} {p : Addr} {ts : List Tr} (e : Ex H0 H1) (h : OLT H1 H p ts) : OLT H0 H p ts := ⟨fresh_back e h.1, h.2⟩
theorem OLT.push {H0 H : Hp} {p : Addr} {ts : List Tr} {t : Tr} (h : OLT H0 H p ts) : ∃ vs : List V, H p = some (.lst vs) ∧ vs.length = ts.length ∧ ∀ H1 x, Ex H H1 → H1 x = some (.tup (trV t)) → OLT H0 (upd H1 p (.lst (vs ++ [.ref x]))) p (ts ++ [t]) := by
  obtain ⟨h0, as, h1, h2⟩ := h
  refine ⟨_, h1, by rw [List.length_map, h2.length], fun H1 x e hx => ⟨h0, as ++ [x], by rw [upd_same, List.map_append]; rfl, ?_⟩⟩
  have h3 : Paired (fun x t => H1 x = some (.tup (trV t))) (as ++ [x]) (ts ++ [t]) := paired_append (paired_mono h2 fun _ _ z => e _ _ z) (.cons hx .nil)
  refine paired_mono h3 fun y u hy => ?_
  rw [upd_ne]
  · exact hy
  · intro z
    subst z
    rw [e _ _ h1] at hy
    cases hy
def triB (n : Nat) (ls : List Ln) (a b c : Nat) : Bool := sideB (n : Int) ls a b && (sideB (n : Int) ls b c && sideB (n : Int) ls a c)
def tri1 (n : Nat) (ls : List Ln) (a b m : Nat) : List Tr := ((List.range' (b + 1) m).filter fun c => triB n ls a b c).map fun c => (a, b, c)
def tri2 (n : Nat) (ls : List Ln) (a m : Nat) : List Tr := (List.range' (a + 1) m).flatMap fun b => tri1 n ls a b (n - (b + 1))
def tri3 (n : Nat) (ls : List Ln) (m : Nat) : List Tr := (List.range m).flatMap fun a => tri2 n ls a (n - (a + 1))
def tris (n : Nat) (ls : List Ln) : List Tr := tri3 n ls n
theorem flat_lenT {α β : Type} {g : α → List β} {c : Nat} : ∀ l : List α, (∀ x, x ∈ l → (g x).length ≤ c) → (l.flatMap g).length ≤ l.length * c
  | [], _ => by simp
  | a :: r, h => by
    have h1 := h a List.mem_cons_self
    have h2 := flat_lenT r fun x hx => h x (List.mem_cons_of_mem _ hx)
    rw [List.flatMap_cons, List.length_append, List.length_cons, Nat.add_mul]
    omega
theorem tri1_len {n : Nat} {ls : List Ln} {a b m : Nat} : (tri1 n ls a b m).length ≤ m := by
  unfold tri1
  rw [List.length_map]
  exact Nat.le_trans (List.length_filter_le _ _) (by rw [List.length_range']; exact Nat.le_refl _)
theorem tri2_len {n : Nat} {ls : List Ln} {a m : Nat} : (tri2 n ls a m).length ≤ m * n := by
  unfold tri2
  refine Nat.le_trans (flat_lenT (c := n) _ fun b _ => Nat.le_trans tri1_len (by omega)) ?_
  rw [List.length_range']
  exact Nat.le_refl _
theorem tri3_len {n : Nat} {ls : List Ln} {m : Nat} (h : m ≤ n) : (tri3 n ls m).length ≤ m * (n * n) := by
  unfold tri3
  refine Nat.le_trans (flat_lenT (c := n * n) _ fun a _ => Nat.le_trans tri2_len (Nat.mul_le_mul_right n (by omega))) ?_
  rw [List.length_range]
  exact Nat.le_refl _
theorem tri1_succ {n : Nat} {ls : List Ln} {a b m : Nat} : tri1 n ls a b (m + 1) = tri1 n ls a b m ++ if triB n ls a b (b + 1 + m) = true then [(a, b, b + 1 + m)] else [] := by
  unfold tri1
  rw [List.range'_1_concat, List.filter_append, List.map_append, List.filter_cons]
  split <;> rfl
theorem tri2_succ {n : Nat} {ls : List Ln} {a m : Nat} : tri2 n ls a (m + 1) = tri2 n ls a m ++ tri1 n ls a (a + 1 + m) (n - (a + 1 + m + 1)) := by
  unfold tri2
  rw [List.range'_1_concat, List.flatMap_append]
  simp
theorem tri3_succ {n : Nat} {ls : List Ln} {m : Nat} : tri3 n ls (m + 1) = tri3 n ls m ++ tri2 n ls m (n - (m + 1)) := by
  unfold tri3
  rw [List.range_succ, List.flatMap_append]
  simp
end AT

/-! ## triangles -/
namespace AT
open PySem PySem.Spec PyProof.Rows L2 Evl
def sp_triangles (K : Frag) : Sp := fun vs H Q _ => ∃ (n : Nat) (a : Addr) (ls : List Ln), vs = [.int (n : Int), .ref a] ∧ LP K H a ls ∧ n ≤ 20 ∧ ∀ H' p, Ex H H' → OLT H H' p (tris n ls) → Q (.ref p) H'
section
variable {P : Program} {w : World} {K : Frag} {mg : Str → Option Value} {base : Heap} {k : Nat}
theorem ok_triangles (T : Txt K mg) (G_is_side : FnOk P w K mg base CX0 k T.f_is_side T.d_is_side ["corners", "lines", "one", "other"] (sp_is_side K)) : FnOk P w K mg base CX0 (k + 1) T.f_triangles T.d_triangles ["corners", "lines"] (sp_triangles K) := by
  refine T.F_triangles.ok sc_triangles (fun vs H Q E h => ?_) (fun cdv A outer s H vs Q E hr h => ?_)
  · obtain ⟨n, a, ls, rfl, _⟩ := h
    rfl
  · obtain ⟨n, a, ls, rfl, hL, hn, q⟩ := h
    refine ⟨_, (pss_cons (ps_set (i := 2) sc_triangles.nd rfl (.inl rfl) (pe_lst pa_nil))
      (pss_cons (ps_for PassesOwn.never rfl (pi_range1 rfl T.b_range (pa_cons (pv 0) pa_nil)) (pg_name (i := 3) sc_triangles.nd rfl (.inl rfl))
        (pss_one (ps_for PassesOwn.never rfl (pi_range2 rfl T.b_range (pa_cons (pe_op op_add (pv 3) pe_int) (pa_cons (pv 0) pa_nil))) (pg_name (i := 4) sc_triangles.nd rfl (.inl rfl))
        (pss_one (ps_for PassesOwn.never rfl (pi_range2 rfl T.b_range (pa_cons (pe_op op_add (pv 4) pe_int) (pa_cons (pv 0) pa_nil))) (pg_name (i := 5) sc_triangles.nd rfl (.inl rfl))
        (pss_one (ps_if (PW.pt (pw_and (pt_val (pe_call G_is_side hr rfl T.m_is_side T.F_is_side.kp T.b_is_side .nil pass0 (pa_cons (pv 0) (pa_cons (pv 1) (pa_cons (pv 3) (pa_cons (pv 4) pa_nil)))))) (pw_and (pt_val (pe_call G_is_side hr rfl T.m_is_side T.F_is_side.kp T.b_is_side .nil pass0 (pa_cons (pv 0) (pa_cons (pv 1) (pa_cons (pv 4) (pa_cons (pv 5) pa_nil)))))) (pw_and1 (pt_val (pe_call G_is_side hr rfl T.m_is_side T.F_is_side.kp T.b_is_side .nil pass0 (pa_cons (pv 0) (pa_cons (pv 1) (pa_cons (pv 3) (pa_cons (pv 5) pa_nil))))))))))
        (pss_one (ps_expr (bmK K PySem.F.plainAttrs_list PySem.F.slot_list_append PySem.F.type_list_append mt_append (pv 2) (pa_cons (pe_tup (pa_cons (pv 3) (pa_cons (pv 4) (pa_cons (pv 5) pa_nil)))) pa_nil))))
        pss_nil)))))))
      (pss_one (ps_ret (pv 2))))), ?_⟩
    refine q_asgL (xs := []) (el_lst ea_nil (by simp)) fun p H1 hp e1 hp1 => ?_
    refine q_forR1 (n := (n : Int)) (ea_cons (ev_var rfl) ea_nil) (by omega) (fun i σ' H' => ∃ x3 x4 x5, σ' = [some (.int (n : Int)), some (.ref a), some (.ref p), x3, x4, x5] ∧ Ex H H' ∧ OLT H H' p (tri3 n ls i)) (fun H2 e2 => ⟨_, _, _, rfl, e1.trans e2, hp, [], e2 _ _ hp1, .nil⟩) (fun i σ' H' hi hP => ?_) (fun σ' H' hP => ?_)
    · obtain ⟨x3, x4, x5, rfl, eH, hO⟩ := hP
      have hin : i < n := by omega
      have hl3 := tri3_len (ls := ls) (n := n) (m := i) (by omega)
      have hl3' : i * (n * n) ≤ 20 * 400 := Nat.mul_le_mul (by omega) (Nat.mul_le_mul hn hn)
      refine s_forR2 (lo := (i : Int) + 1) (n := (n : Int)) (ea_cons (ev_op (ev_var rfl) ev_c rv_I0) (ea_cons (ev_var rfl) ea_nil)) (by omega) (fun t σ' H' => ∃ x4 x5, σ' = [some (.int (n : Int)), some (.ref a), some (.ref p), some (.int (i : Int)), x4, x5] ∧ Ex H H' ∧ OLT H H' p (tri3 n ls i ++ tri2 n ls i t)) (fun H2 e2 => ⟨_, _, rfl, eH.trans e2, by
        have : tri2 n ls i 0 = [] := rfl
        rw [this, List.append_nil]
        exact hO.mono e2⟩) (fun t σ' H2 ht hP => ?_) (fun σ' H2 hP => ?_)
      · obtain ⟨x4, x5, rfl, e2, hO2⟩ := hP
        have eb : (i : Int) + 1 + (t : Int) = ((i + 1 + t : Nat) : Int) := by omega
        rw [eb]
        have hbn : i + 1 + t < n := by omega
        have hl2 := tri2_len (ls := ls) (n := n) (a := i) (m := t)
        have hl2' : t * n ≤ 20 * 20 := Nat.mul_le_mul (by omega) hn
        refine s_forR2 (lo := ((i + 1 + t : Nat) : Int) + 1) (n := (n : Int)) (ea_cons (ev_op (ev_var rfl) ev_c rv_I0) (ea_cons (ev_var rfl) ea_nil)) (by omega) (fun u σ' H' => ∃ x5, σ' = [some (.int (n : Int)), some (.ref a), some (.ref p), some (.int (i : Int)), some (.int ((i + 1 + t : Nat) : Int)), x5] ∧ Ex H H' ∧ OLT H H' p (tri3 n ls i ++ tri2 n ls i t ++ tri1 n ls i (i + 1 + t) u)) (fun H3 e3 => ⟨_, rfl, e2.trans e3, by
          have : tri1 n ls i (i + 1 + t) 0 = [] := rfl
          rw [this, List.append_nil]
          exact hO2.mono e3⟩) (fun u σ' H3 hu hP => ?_) (fun σ' H3 hP => ?_)
        · obtain ⟨x5, rfl, e3, hO3⟩ := hP
          have ec : ((i + 1 + t : Nat) : Int) + 1 + (u : Int) = ((i + 1 + t + 1 + u : Nat) : Int) := by omega
          rw [ec]
          have hl1 := tri1_len (ls := ls) (n := n) (a := i) (b := i + 1 + t) (m := u)
          have hside : ∀ (x y : Nat) (jx jy : Nat) (H4 : Hp), Ex H3 H4 → [some (V.int (n : Int)), some (.ref a), some (.ref p), some (.int (i : Int)), some (.int ((i + 1 + t : Nat) : Int)), some (.int ((i + 1 + t + 1 + u : Nat) : Int))][jx]? = some (some (.int (x : Int))) → [some (V.int (n : Int)), some (.ref a), some (.ref p), some (.int (i : Int)), some (.int ((i + 1 + t : Nat) : Int)), some (.int ((i + 1 + t + 1 + u : Nat) : Int))][jy]? = some (some (.int (y : Int))) →
              Ev (tCall (sp_is_side K) [] E0 (tCons (tVar 0) (tCons (tVar 1) (tCons (tVar jx) (tCons (tVar jy) tNil))))) [some (V.int (n : Int)), some (.ref a), some (.ref p), some (.int (i : Int)), some (.int ((i + 1 + t : Nat) : Int)), some (.int ((i + 1 + t + 1 + u : Nat) : Int))] H4 (.bl (sideB (n : Int) ls x y)) := fun x y jx jy H4 e4 h1 h2 =>
            ev_call (ea_cons (ev_var (v := .int (n : Int)) (i := 0) rfl) (ea_cons (ev_var (v := .ref a) (i := 1) rfl) (ea_cons (ev_var h1) (ea_cons (ev_var h2) ea_nil)))) fun G1 g1 Q' q' E' => ⟨_, a, ls, _, _, rfl, hL.mono ((e3.trans e4).trans g1), q'⟩
          refine s_when (b := triB n ls i (i + 1 + t) (i + 1 + t + 1 + u)) (et_and (et_test (hside _ _ 3 4 H3 (Ex.refl _) rfl rfl)) fun _ => et_and (et_test (hside _ _ 4 5 H3 (Ex.refl _) rfl rfl)) fun _ => et_test (hside _ _ 3 5 H3 (Ex.refl _) rfl rfl)) (fun hb H4 e4 => ?_) (fun hb H4 e4 => ?_)
          · obtain ⟨vs, hv1, hv2, hv3⟩ := (hO3.mono e4).push (t := (i, i + 1 + t, i + 1 + t + 1 + u))
            refine s_appU hv1 (ev_var rfl) (eu_tup (ea_cons (ev_var (v := .int (i : Int)) (i := 3) rfl) (ea_cons (ev_var (v := .int ((i + 1 + t : Nat) : Int)) (i := 4) rfl) (ea_cons (ev_var (v := .int ((i + 1 + t + 1 + u : Nat) : Int)) (i := 5) rfl) ea_nil))) (by show 3 ≤ 100000; decide)) (by rw [hv2, List.length_append, List.length_append]; omega) fun x H5 hx e5 hx5 => ⟨_, rfl, Ex.mut ((e3.trans e4).trans e5) hO.1, ?_⟩
            rw [tri1_succ, if_pos hb, ← List.append_assoc]
            exact hv3 H5 x e5 hx5
          · refine ⟨_, rfl, e3.trans e4, ?_⟩
            rw [tri1_succ, if_neg (by rw [hb]; decide), List.append_nil]
            exact hO3.mono e4
        · obtain ⟨x5, rfl, e3, hO3⟩ := hP
          refine ⟨_, _, rfl, e3, ?_⟩
          rw [tri2_succ, ← List.append_assoc]
          have : ((n : Int) - (((i + 1 + t : Nat) : Int) + 1)).toNat = n - (i + 1 + t + 1) := by omega
          rw [this] at hO3
          exact hO3
      · obtain ⟨x4, x5, rfl, e2, hO2⟩ := hP
        refine ⟨_, _, _, rfl, e2, ?_⟩
        rw [tri3_succ]
        have : ((n : Int) - ((i : Int) + 1)).toNat = n - (i + 1) := by omega
        rw [this] at hO2
        exact hO2
    · obtain ⟨x3, x4, x5, rfl, eH, hO⟩ := hP
      exact s_ret (ev_var rfl) fun H2 e2 => q H2 p (eH.trans e2) (hO.mono e2)
end
end AT

/-! ## the law's own triangles -/
namespace AT
open PySem PySem.Spec PyProof.Rows L2 Evl
section
variable {P : Program} {w : World} {K : Frag} {mg : Str → Option Value} {base : Heap} {k : Nat}
theorem er_some3 {σ : St} {H : Hp} {t1 t2 t3 : TE} {p1 p2 p3 : Ln} (h1 : EvU t1 σ H [.int p1.1, .int p1.2]) (h2 : EvU t2 σ H [.int p2.1, .int p2.2]) (h3 : EvU t3 σ H [.int p3.1, .int p3.2]) : Er (tLst (tCons t1 (tCons t2 (tCons t3 tNil)))) σ H (RLP K [p1, p2, p3]) := fun H1 e Q q =>
  h1 H1 e _ fun x H2 hx e2 hx2 => h2 H2 (e.trans e2) _ fun y H3 hy e3 hy3 => h3 H3 ((e.trans e2).trans e3) _ fun z H4 hz e4 hz4 => ⟨by show 3 ≤ sizeLine; decide, fun p hp => by
    have en : Ex H4 (upd H4 p (.lst [.ref x, .ref y, .ref z])) := Ex.new hp
    refine q _ _ (((e2.trans e3).trans e4).trans en) ⟨p, rfl, fresh_back ((e2.trans e3).trans e4) hp, [x, y, z], by rw [upd_same]; rfl, .cons ?_ (.cons ?_ (.cons ?_ .nil))⟩
    · exact st_of (((e3.trans e4).trans en) _ _ hx2)
    · exact st_of ((e4.trans en) _ _ hy3)
    · exact st_of (en _ _ hz4)⟩
theorem side_law (c : Int) (ls : List Ln) (p : Ln) : ((decide (p.2 - p.1 = 1) || decide (p.2 - p.1 = c - 1)) || decide (p ∈ ls)) = sideB c ls p.1 p.2 := by
  unfold sideB
  rw [Bool.or_assoc]
theorem three_given (f : Nat → Bool) (v : Nat → V) : decide (V.int ((given 3 f v).length : Int) = V.int 3) = (f 0 && (f 1 && f 2)) := by
  unfold given
  rw [List.length_map]
  show decide (V.int (([0, 1, 2].filter f).length : Int) = V.int 3) = _
  cases h0 : f 0 <;> cases h1 : f 1 <;> cases h2 : f 2 <;> simp [List.filter_cons, h0, h1, h2]
theorem ok__law_parts (T : Txt K mg) : FnOk P w K mg base CX0 (k + 1) T.f__law_parts T.d__law_parts ["corners", "lines"] (sp_triangles K) := by
  refine T.F__law_parts.ok sc__law_parts (fun vs H Q E h => ?_) (fun cdv A outer s H vs Q E hr h => ?_)
  · obtain ⟨n, a, ls, rfl, _⟩ := h
    rfl
  · obtain ⟨n, a, ls, rfl, hL, hn, q⟩ := h
    refine ⟨_, (pss_cons (ps_set (i := 2) sc__law_parts.nd rfl (.inl rfl) (pe_lst pa_nil))
      (pss_cons (ps_for PassesOwn.never rfl (pi_range1 rfl T.b_range (pa_cons (pv 0) pa_nil)) (pg_name (i := 3) sc__law_parts.nd rfl (.inl rfl))
        (pss_one (ps_for PassesOwn.never rfl (pi_range2 rfl T.b_range (pa_cons (pe_op op_add (pv 3) pe_int) (pa_cons (pv 0) pa_nil))) (pg_name (i := 4) sc__law_parts.nd rfl (.inl rfl))
        (pss_one (ps_for PassesOwn.never rfl (pi_range2 rfl T.b_range (pa_cons (pe_op op_add (pv 4) pe_int) (pa_cons (pv 0) pa_nil))) (pg_name (i := 5) sc__law_parts.nd rfl (.inl rfl))
        (pss_cons (ps_set (i := 6) sc__law_parts.nd rfl (.inl rfl) (pe_lst (pa_cons (pe_tup (pa_cons (pv 3) (pa_cons (pv 4) pa_nil))) (pa_cons (pe_tup (pa_cons (pv 4) (pa_cons (pv 5) pa_nil))) (pa_cons (pe_tup (pa_cons (pv 3) (pa_cons (pv 5) pa_nil))) pa_nil)))))
      (pss_one (ps_if (pt_cmpR op_eq (pe_callB (lenK K) rfl T.b_len PySem.boot_len (pa_cons (pe_lc (own := [("x", 7)]) rfl sc__law_parts.nd (pi_listK K (pv 6)) (blkOk_by (own := [("x", 7)]) (N := N__law_parts) (sc := defScope s__law_parts) (by decide +kernel)) (fun _ _ _ _ _ => (pg_name (i := 7) sc__law_parts.nd rfl (.inl rfl))) (fun _ _ _ _ _ => (pts_one (PW.pt (pw_or (pt_cmpR (inK K) (pe_op op_sub (pe_ix (ixT K) (pv 7) pe_int (fun _ _ => rfl)) (pe_ix (ixT K) (pv 7) pe_int (fun _ _ => rfl))) (pe_tup (pa_cons pe_int (pa_cons (pe_op op_sub (pv 0) pe_int) pa_nil))) rfl) (pw_or1 (pt_cmpR (inDK K hr.units65) (pv 7) (pv 1) rfl)))))) (fun _ _ _ _ _ => (pv 7))) pa_nil)) pe_int (nomark _))
        (pss_one (ps_expr (bmK K PySem.F.plainAttrs_list PySem.F.slot_list_append PySem.F.type_list_append mt_append (pv 2) (pa_cons (pe_tup (pa_cons (pv 3) (pa_cons (pv 4) (pa_cons (pv 5) pa_nil)))) pa_nil))))
        pss_nil))))))))
      (pss_one (ps_ret (pv 2))))), ?_⟩
    refine q_asgL (xs := []) (el_lst ea_nil (by simp)) fun p H1 hp e1 hp1 => ?_
    refine q_forR1 (n := (n : Int)) (ea_cons (ev_var rfl) ea_nil) (by omega) (fun i σ' H' => ∃ x3 x4 x5 x6, σ' = [some (.int (n : Int)), some (.ref a), some (.ref p), x3, x4, x5, x6, none] ∧ Ex H H' ∧ OLT H H' p (tri3 n ls i)) (fun H2 e2 => ⟨_, _, _, _, rfl, e1.trans e2, hp, [], e2 _ _ hp1, .nil⟩) (fun i σ' H' hi hP => ?_) (fun σ' H' hP => ?_)
    · obtain ⟨x3, x4, x5, x6, rfl, eH, hO⟩ := hP
      have hin : i < n := by omega
      have hl3 := tri3_len (ls := ls) (n := n) (m := i) (by omega)
      have hl3' : i * (n * n) ≤ 20 * 400 := Nat.mul_le_mul (by omega) (Nat.mul_le_mul hn hn)
      refine s_forR2 (lo := (i : Int) + 1) (n := (n : Int)) (ea_cons (ev_op (ev_var rfl) ev_c rv_I0) (ea_cons (ev_var rfl) ea_nil)) (by omega) (fun t σ' H' => ∃ x4 x5 x6, σ' = [some (.int (n : Int)), some (.ref a), some (.ref p), some (.int (i : Int)), x4, x5, x6, none] ∧ Ex H H' ∧ OLT H H' p (tri3 n ls i ++ tri2 n ls i t)) (fun H2 e2 => ⟨_, _, _, rfl, eH.trans e2, by
        have : tri2 n ls i 0 = [] := rfl
        rw [this, List.append_nil]
        exact hO.mono e2⟩) (fun t σ' H2 ht hP => ?_) (fun σ' H2 hP => ?_)
      · obtain ⟨x4, x5, x6, rfl, e2, hO2⟩ := hP
        have eb : (i : Int) + 1 + (t : Int) = ((i + 1 + t : Nat) : Int) := by omega
        rw [eb]
        have hbn : i + 1 + t < n := by omega
        have hl2 := tri2_len (ls := ls) (n := n) (a := i) (m := t)
        have hl2' : t * n ≤ 20 * 20 := Nat.mul_le_mul (by omega) hn
        refine s_forR2 (lo := ((i + 1 + t : Nat) : Int) + 1) (n := (n : Int)) (ea_cons (ev_op (ev_var rfl) ev_c rv_I0) (ea_cons (ev_var rfl) ea_nil)) (by omega) (fun u σ' H' => ∃ x5 x6, σ' = [some (.int (n : Int)), some (.ref a), some (.ref p), some (.int (i : Int)), some (.int ((i + 1 + t : Nat) : Int)), x5, x6, none] ∧ Ex H H' ∧ OLT H H' p (tri3 n ls i ++ tri2 n ls i t ++ tri1 n ls i (i + 1 + t) u)) (fun H3 e3 => ⟨_, _, rfl, e2.trans e3, by
          have : tri1 n ls i (i + 1 + t) 0 = [] := rfl
          rw [this, List.append_nil]
          exact hO2.mono e3⟩) (fun u σ' H3 hu hP => ?_) (fun σ' H3 hP => ?_)
        · obtain ⟨x5, x6, rfl, e3, hO3⟩ := hP
          have ec : ((i + 1 + t : Nat) : Int) + 1 + (u : Int) = ((i + 1 + t + 1 + u : Nat) : Int) := by omega
          rw [ec]
          generalize hb : i + 1 + t = b at *
          generalize hc : b + 1 + u = c at *
          have hl1 := tri1_len (ls := ls) (n := n) (a := i) (b := b) (m := u)
          refine qr_asg (er_some3 (K := K) (p1 := ((i : Int), (b : Int))) (p2 := ((b : Int), (c : Int))) (p3 := ((i : Int), (c : Int))) (eu_tup (ea_cons (ev_var rfl) (ea_cons (ev_var rfl) ea_nil)) (by show 2 ≤ 100000; decide)) (eu_tup (ea_cons (ev_var rfl) (ea_cons (ev_var rfl) ea_nil)) (by show 2 ≤ 100000; decide)) (eu_tup (ea_cons (ev_var rfl) (ea_cons (ev_var rfl) ea_nil)) (by show 2 ≤ 100000; decide))) fun v H4 e4 ⟨m, hv, hm⟩ => ?_
          subst hv
          have hml := hm.lp
          obtain ⟨_, ms, hms, hmp⟩ := id hm
          have hmlen := hmp.length
          have hcnt := el_lcL (K := K) (σ := [some (V.int (n : Int)), some (.ref a), some (.ref p), some (.int (i : Int)), some (.int (b : Int)), some (.int (c : Int)), some (.ref m), none]) (H := H4) (te := tVar 7) (t := tOr (tTest (tOp (rIn K false) (tOp (rI0 fun i j => .int (i - j)) (tOp (rIxT K) (tVar 7) (tC (.int 1))) (tOp (rIxT K) (tVar 7) (tC (.int 0)))) (tTup (tCons (tC (.int 1)) (tCons (tOp (rI0 fun i j => .int (i - j)) (tVar 0) (tC (.int 1))) tNil))))) (tTest (tOp (rInD K) (tVar 7) (tVar 1)))) (tl := tVar 6) (j := 7) (vs := [7]) (a := m) (xs := ms.map V.ref) (fun j => sideB (n : Int) ls (lnD [((i : Int), (b : Int)), ((b : Int), (c : Int)), ((i : Int), (c : Int))] j).1 (lnD [((i : Int), (b : Int)), ((b : Int), (c : Int)), ((i : Int), (c : Int))] j).2) (fun j => (ms.map V.ref).getD j .non) (ev_var rfl) (sq_of hms) (by rw [List.length_map, hmlen]; simp) (fun _ => rfl)
            (fun j x G1 g1 hx => by
              rw [List.getElem?_map] at hx
              cases hy : ms[j]? with
              | none => rw [hy] at hx; cases hx
              | some y =>
                rw [hy] at hx
                cases hx
                obtain ⟨r, hr1, hr2⟩ := paired_getL hmp hy
                have e : lnD [((i : Int), (b : Int)), ((b : Int), (c : Int)), ((i : Int), (c : Int))] j = r := by unfold lnD; rw [List.getD_eq_getElem?_getD, hr1]; rfl
                rw [e, ← side_law, ← inV_two]
                exact et_or (et_test (ev_inU (ev_op (ev_p2 (ev_var rfl) ev_c (hr2.mono g1)) (ev_p1 (ev_var rfl) ev_c (hr2.mono g1)) rv_I0) (eu_tup (ea_cons ev_c (ea_cons (ev_op (ev_var rfl) ev_c rv_I0) ea_nil)) (by show 2 ≤ 100000; decide)) rfl rfl)) fun _ => et_test (ev_op (ev_var rfl) (ev_var rfl) (rv_inP (hr2.mono g1) (hL.mono ((e3.trans e4).trans g1)))))
            (fun j x G1 g1 hx _ => by
              rw [List.getD_eq_getElem?_getD, hx]
              exact ev_var rfl)
          rw [List.length_map, hmlen] at hcnt
          have e34 := e3.trans e4
          refine s_when (b := triB n ls i b c) (et_is (et_test (ev_op (ev_lenN hcnt) ev_c (rv_eq rfl))) (three_given _ _)) (fun hb' H5 e5 => ?_) (fun hb' H5 e5 => ?_)
          · obtain ⟨vs, hv1, hv2, hv3⟩ := ((hO3.mono e4).mono e5).push (t := (i, b, c))
            refine s_appU hv1 (ev_var rfl) (eu_tup (ea_cons (ev_var (v := .int (i : Int)) (i := 3) rfl) (ea_cons (ev_var (v := .int (b : Int)) (i := 4) rfl) (ea_cons (ev_var (v := .int (c : Int)) (i := 5) rfl) ea_nil))) (by show 3 ≤ 100000; decide)) (by rw [hv2, List.length_append, List.length_append]; omega) fun x H6 hx e6 hx6 => ⟨_, _, rfl, Ex.mut ((e34.trans e5).trans e6) hO.1, ?_⟩
            rw [tri1_succ, hc, if_pos hb', ← List.append_assoc]
            exact hv3 H6 x e6 hx6
          · refine ⟨_, _, rfl, e34.trans e5, ?_⟩
            rw [tri1_succ, hc, if_neg (by rw [hb']; decide), List.append_nil]
            exact (hO3.mono e4).mono e5
        · obtain ⟨x5, x6, rfl, e3, hO3⟩ := hP
          refine ⟨_, _, _, rfl, e3, ?_⟩
          rw [tri2_succ, ← List.append_assoc]
          have : ((n : Int) - (((i + 1 + t : Nat) : Int) + 1)).toNat = n - (i + 1 + t + 1) := by omega
          rw [this] at hO3
          exact hO3
      · obtain ⟨x4, x5, x6, rfl, e2, hO2⟩ := hP
        refine ⟨_, _, _, _, rfl, e2, ?_⟩
        rw [tri3_succ]
        have : ((n : Int) - ((i : Int) + 1)).toNat = n - (i + 1) := by omega
        rw [this] at hO2
        exact hO2
    · obtain ⟨x3, x4, x5, x6, rfl, eH, hO⟩ := hP
      exact s_ret (ev_var rfl) fun H2 e2 => q H2 p (eH.trans e2) (hO.mono e2)
end
end AT

/-! ## the form of a cut -/
namespace AT
open PySem PySem.Spec PyProof.Rows L2 Evl
/-- what is no list of n ints stays -/
def Kp (n : Nat) (H H1 : Hp) : Prop := ∀ (y : Addr) (o : HO), H y = some o → (∀ xs : List Int, xs.length = n → o ≠ .lst (xs.map V.int)) → H1 y = some o
theorem Kp.of {n : Nat} {H H1 : Hp} (e : Ex H H1) : Kp n H H1 := fun y o h _ => e y o h
theorem Kp.trans {n : Nat} {H H1 H2 : Hp} (a : Kp n H H1) (b : Kp n H1 H2) : Kp n H H2 := fun y o h ho => b y o (a y o h ho) ho
section
variable {K : Frag} {σ : St} {H H0 : Hp} {te ti tj tv : TE} {p : Addr} {D : Ends} {tz : TS}
theorem s_setFmK {n i j : Nat} {f : Nat → Nat → Int} {w : Int} (h : OLLI H0 H p (Fm n f)) (e0 : Ex H0 H) (hin : i < n) (hjn : j < n) (he : Ev te σ H (.int w)) (ho : Ev tv σ H (.ref p)) (hi : Ev ti σ H (.int (i : Int))) (hj' : Ev tj σ H (.int (j : Int)))
    (k : ∀ H1, Ex H0 H1 → Kp n H H1 → OLLI H0 H1 p (Fm n (setF f i j w)) → D.nx σ H1) : tAsg te (gSub (tOp (rIxL K) tv ti) tj rSetL) D σ H := by
  obtain ⟨as, x, h1, h2, h3, h4, h5⟩ := h.store (j := j) (w := w) (fm_get hin)
  refine s_setL (l := x) (xs := ((List.range n).map (f i)).map V.int) (j := j) h4 he (ev_op ho hi (rv_ixL (sq_of h1) (atI_n (by rw [List.getElem?_map, h2]; rfl)))) hj' (by simpa using hjn) fun H1 e1 => ?_
  have h6 := h5 H1 e1
  rw [setF_fm hin hjn] at h6
  refine k _ (Ex.mut (e0.trans e1) h3) (fun y o hy hno => ?_) h6
  rw [upd_ne]
  · exact e1 _ _ hy
  · intro z
    subst z
    rw [h4] at hy
    injection hy with hy
    exact hno ((List.range n).map (f i)) (by simp) hy.symm
theorem q_setFmK {n i j : Nat} {f : Nat → Nat → Int} {w : Int} (h : OLLI H0 H p (Fm n f)) (e0 : Ex H0 H) (hin : i < n) (hjn : j < n) (he : Ev te σ H (.int w)) (ho : Ev tv σ H (.ref p)) (hi : Ev ti σ H (.int (i : Int))) (hj' : Ev tj σ H (.int (j : Int)))
    (k : ∀ H1, Ex H0 H1 → Kp n H H1 → OLLI H0 H1 p (Fm n (setF f i j w)) → tz D σ H1) : tSeq (tAsg te (gSub (tOp (rIxL K) tv ti) tj rSetL)) tz D σ H :=
  s_setFmK (D := { D with nx := tz D }) h e0 hin hjn he ho hi hj' k
end
/-- one arrow from p's place to q's, where both are lines -/
def pairStep (ls : List Ln) (f : Nat → Nat → Int) (pq : Ln × Ln) : Nat → Nat → Int :=
  if pq.1 ∈ ls ∧ pq.2 ∈ ls then setF (setF f (ls.idxOf pq.1) (ls.idxOf pq.2) (f (ls.idxOf pq.1) (ls.idxOf pq.2) + 1)) (ls.idxOf pq.2) (ls.idxOf pq.1) (setF f (ls.idxOf pq.1) (ls.idxOf pq.2) (f (ls.idxOf pq.1) (ls.idxOf pq.2) + 1) (ls.idxOf pq.2) (ls.idxOf pq.1) - 1) else f
def sidesOf (t : Tr) : List Ln := [((t.1 : Int), (t.2.1 : Int)), ((t.2.1 : Int), (t.2.2 : Int)), ((t.1 : Int), (t.2.2 : Int))]
def triPairs (t : Tr) : List (Ln × Ln) := [(lnD (sidesOf t) 0, lnD (sidesOf t) 1), (lnD (sidesOf t) 1, lnD (sidesOf t) 2), (lnD (sidesOf t) 2, lnD (sidesOf t) 0)]
def triStep (ls : List Ln) (f : Nat → Nat → Int) (t : Tr) : Nat → Nat → Int := (triPairs t).foldl (pairStep ls) f
def formF (n : Nat) (ls : List Ln) : Nat → Nat → Int := (tris n ls).foldl (triStep ls) fun _ _ => 0
def sp_form_by (K : Frag) : Sp := fun vs H Q _ => ∃ (n : Nat) (a : Addr) (ls : List Ln), vs = [.int (n : Int), .ref a] ∧ LP K H a ls ∧ n ≤ 20 ∧ 1 ≤ ls.length ∧ ls.length ≤ 20 ∧ ∀ H' p, Ex H H' → OLLI H H' p (Fm ls.length (formF n ls)) → Q (.ref p) H'
section
variable {P : Program} {w : World} {K : Frag} {mg : Str → Option Value} {base : Heap} {k : Nat}
/-- [[0 for .. in ls] for .. in ls] -/
theorem er_zeros {σ : St} {H : Hp} {a : Addr} {ls : List Ln} {t1 t2 : TE} {j1 j2 : Nat} {v1 v2 : List Nat} (h1 : Ev t1 σ H (.ref a)) (hL : LP K H a ls) (hl : ls.length ≤ 20)
    (hw1 : ∀ x, wipe ((wipe σ v1).set j1 (some x)) v1 = wipe σ v1) (hw2 : ∀ x y, wipe ((wipe ((wipe σ v1).set j1 (some x)) v2).set j2 (some y)) v2 = wipe ((wipe σ v1).set j1 (some x)) v2)
    (h2 : ∀ x H1, Ex H H1 → Ev t2 ((wipe σ v1).set j1 (some x)) H1 (.ref a)) :
    Er (tLc (iList K t1) (gName j1) tYes (tLc (iList K t2) (gName j2) tYes (tC (.int 0)) v2) v1) σ H (RM (Fm ls.length fun _ _ => 0)) := by
  obtain ⟨as, hA, hal⟩ := hL.len
  have := em_lcL (K := K) (te := tLc (iList K t2) (gName j2) tYes (tC (.int 0)) v2) (fun _ => (List.range ls.length).map fun _ => (0 : Int)) h1 hA (by rw [List.length_map]; omega) hw1 (fun i x H1 e1 hx => er_of_evl (by
    have := el_lcL (K := K) (te := tC (.int 0)) (t := tYes) (fun _ => true) (fun _ => .int 0) (h2 x H1 e1) (ex_l e1 hA) (by rw [List.length_map]; omega) (hw2 x) (fun i y G1 g1 hy G2 g2 Q' q' => q' G2 (Ex.refl _)) (fun i y G1 g1 hy _ => ev_c)
    rw [List.length_map, hal, given_all] at this
    exact this))
  rw [List.length_map, hal] at this
  exact this
theorem lp_kp {n : Nat} {H H1 : Hp} {m : Addr} {ms : List Addr} {ss : List Ln} (h1 : H m = some (.lst (ms.map V.ref))) (h2 : Paired (fun x p => PT K H x p) ms ss) (e : Ex H H1) : LP K H1 m ss := ⟨ms, sq_of (e _ _ h1), paired_mono h2 fun _ _ z => z.mono e⟩
end
end AT

/-! ## sum of a tuple; loops over what an expression makes; triples kept while a form's rows change -/
namespace AT
open PySem PySem.Spec PyProof.Rows L2 Evl
section
variable {X : Cx}
def rSumT (K : Frag) : List V → Hp → VK → Prop := fun vs H Q => ∃ (a : Addr) (ns : List Int), vs = [V.ref a] ∧ SqT K H a (ns.map V.int) ∧ Q (.int ns.sum) H
theorem sumTK (K : Frag) (hc : X.calm = true) (h : X.K = K := by rfl) : CallR X (.builtin "sum") (rSumT K) := by
  subst h
  intro pins s σ H vs us Q I r h
  obtain ⟨a, ns, rfl, hs, q⟩ := h
  obtain ⟨its, rv, ht, _⟩ := I.tuple hs
  rw [Vals.ref1 r]
  have hi := rv.ints
  obtain ⟨xs, e⟩ := hi.allInts.items
  have hn : numsOf (intItems xs).toList = ns := by rw [← e]; exact hi.numsOf
  rw [nums_intItems] at hn
  rw [e] at ht
  refine PySem.W.ktm_sumG (I.ok.hd hc) ht fun h' tk t' hk => ?_
  rw [preSum_eq, List.take_of_length_le (by simp), hn]
  exact ⟨.int _, H, I.kept hk, ⟨_, rfl⟩, q⟩
end
section
variable {K : Frag} {σ : St} {H H0 H1 H' : Hp} {te tl : TE} {p x : Addr} {D : Ends} {tz tu : TS} {g : TG} {R : R3}
theorem ev_sumT {ns : List Int} {a : Addr} (h : Ev te σ H (.ref a)) (hT : SqT K H a (ns.map V.int)) : Ev (tCB (rSumT K) (tCons te tNil)) σ H (.int ns.sum) := fun H1 e Q q =>
  h H1 e _ fun H2 e2 => ⟨a, ns, rfl, ex_t (e.trans e2) hT, q H2 e2⟩
theorem s_forE (h : Er tl σ H R) (k : ∀ v H1, Ex H H1 → R H H1 v → ∃ a xs, v = .ref a ∧ SqL K H1 a xs ∧ ∃ Pv : Nat → St → Hp → Prop, Pv 0 σ H1 ∧ (∀ i σ' H', i ≤ xs.length → Pv i σ' H' → SqL K H' a xs) ∧
    (∀ i x σ' H', xs[i]? = some x → Pv i σ' H' → g x σ' H' fun σ2 H2 => tu { D with nx := Pv (i + 1), ct := Pv (i + 1), bk := D.nx } σ2 H2) ∧ ∀ σ' H', Pv xs.length σ' H' → D.nx σ' H') : tFor (iList K tl) g tu D σ H :=
  h H (Ex.refl H) _ fun v H1 e r => by
    obtain ⟨a, xs, rfl, hx, Pv, h0, hl, hs, hd⟩ := k v H1 e r
    exact ⟨a, rfl, ⟨xs, hx⟩, for_list Pv h0 hl hs hd⟩
theorem q_forE (h : Er tl σ H R) (k : ∀ v H1, Ex H H1 → R H H1 v → ∃ a xs, v = .ref a ∧ SqL K H1 a xs ∧ ∃ Pv : Nat → St → Hp → Prop, Pv 0 σ H1 ∧ (∀ i σ' H', i ≤ xs.length → Pv i σ' H' → SqL K H' a xs) ∧
    (∀ i x σ' H', xs[i]? = some x → Pv i σ' H' → g x σ' H' fun σ2 H2 => tu { D with nx := Pv (i + 1), ct := Pv (i + 1), bk := tz D } σ2 H2) ∧ ∀ σ' H', Pv xs.length σ' H' → tz D σ' H') : tSeq (tFor (iList K tl) g tu) tz D σ H :=
  s_forE (D := { D with nx := tz D }) h k
/-- a new list of triples -/
def ROT (ts : List Tr) : R3 := fun H1 H2 v => ∃ p, v = .ref p ∧ OLT H1 H2 p ts
theorem mon_ROT {ts : List Tr} : Mon (ROT ts) := ⟨fun e ⟨p, h, q⟩ => ⟨p, h, q.mono e⟩, fun e ⟨p, h, q⟩ => ⟨p, h, q.back e⟩⟩
theorem er_tris {ta : TA} {E : XK} {n : Nat} {a : Addr} {ls : List Ln} (h : EvA ta σ H [.int (n : Int), .ref a]) (hL : LP K H a ls) (hn : n ≤ 20) : Er (tCall (sp_triangles K) [] E ta) σ H (ROT (tris n ls)) :=
  er_call mon_ROT h fun H1 e1 Q q E => ⟨n, a, ls, rfl, hL.mono e1, hn, fun H' p e hO => q _ H' e ⟨p, rfl, hO⟩⟩
theorem kp_lst {n : Nat} {t : Addr} {as : List Addr} (hn : 1 ≤ n) (k : Kp n H H') (h : H t = some (.lst (as.map V.ref))) : H' t = some (.lst (as.map V.ref)) := k t _ h fun xs hx e => by
  injection e with e
  have hl := congrArg List.length e
  rw [List.length_map, List.length_map] at hl
  cases as with
  | nil => simp at hl; omega
  | cons a as =>
    cases xs with
    | nil => simp at hl
    | cons x xs => simp at e
theorem kp_tup {n : Nat} {vs : List V} (k : Kp n H H') (h : H x = some (.tup vs)) : H' x = some (.tup vs) := k x _ h fun xs _ e => nomatch e
theorem OLT.kp {n : Nat} {ts : List Tr} (hn : 1 ≤ n) (h : OLT H0 H p ts) (k : Kp n H H') : OLT H0 H' p ts := by
  obtain ⟨h0, as, h1, h2⟩ := h
  exact ⟨h0, as, kp_lst hn k h1, paired_mono h2 fun _ _ z => kp_tup k z⟩
/-- a list of pairs, each an object of its own here -/
def LPH (H : Hp) (m : Addr) (ss : List Ln) : Prop := ∃ ms : List Addr, H m = some (.lst (ms.map V.ref)) ∧ Paired (fun x p => H x = some (.tup [.int p.1, .int p.2])) ms ss
theorem LPH.lp {m : Addr} {ss : List Ln} (h : LPH H m ss) : LP K H m ss := by
  obtain ⟨ms, h1, h2⟩ := h
  exact ⟨ms, sq_of h1, paired_mono h2 fun _ _ z => st_of z⟩
theorem LPH.kp {n : Nat} {m : Addr} {ss : List Ln} (hn : 1 ≤ n) (h : LPH H m ss) (k : Kp n H H') : LPH H' m ss := by
  obtain ⟨ms, h1, h2⟩ := h
  exact ⟨ms, kp_lst hn k h1, paired_mono h2 fun _ _ z => kp_tup k z⟩
theorem LPH.mono {m : Addr} {ss : List Ln} (e : Ex H H') (h : LPH H m ss) : LPH H' m ss := by
  obtain ⟨ms, h1, h2⟩ := h
  exact ⟨ms, e _ _ h1, paired_mono h2 fun _ _ z => e _ _ z⟩
def RLPH (ss : List Ln) : R3 := fun H1 H2 v => ∃ p, v = .ref p ∧ H1 p = none ∧ LPH H2 p ss
theorem er_sides3 {t1 t2 t3 : TE} {p1 p2 p3 : Ln} (h1 : EvU t1 σ H [.int p1.1, .int p1.2]) (h2 : EvU t2 σ H [.int p2.1, .int p2.2]) (h3 : EvU t3 σ H [.int p3.1, .int p3.2]) : Er (tLst (tCons t1 (tCons t2 (tCons t3 tNil)))) σ H (RLPH [p1, p2, p3]) := fun H1 e Q q =>
  h1 H1 e _ fun x H2 hx e2 hx2 => h2 H2 (e.trans e2) _ fun y H3 hy e3 hy3 => h3 H3 ((e.trans e2).trans e3) _ fun z H4 hz e4 hz4 => ⟨by show 3 ≤ sizeLine; decide, fun p hp => by
    have en : Ex H4 (upd H4 p (.lst [.ref x, .ref y, .ref z])) := Ex.new hp
    exact q _ _ (((e2.trans e3).trans e4).trans en) ⟨p, rfl, fresh_back ((e2.trans e3).trans e4) hp, [x, y, z], by rw [upd_same]; rfl, .cons (((e3.trans e4).trans en) _ _ hx2) (.cons ((e4.trans en) _ _ hy3) (.cons (en _ _ hz4) .nil))⟩⟩
theorem er_sides4 {t1 t2 t3 t4 : TE} {p1 p2 p3 p4 : Ln} (h1 : EvU t1 σ H [.int p1.1, .int p1.2]) (h2 : EvU t2 σ H [.int p2.1, .int p2.2]) (h3 : EvU t3 σ H [.int p3.1, .int p3.2]) (h4 : EvU t4 σ H [.int p4.1, .int p4.2]) : Er (tLst (tCons t1 (tCons t2 (tCons t3 (tCons t4 tNil))))) σ H (RLPH [p1, p2, p3, p4]) := fun H1 e Q q =>
  h1 H1 e _ fun x H2 hx e2 hx2 => h2 H2 (e.trans e2) _ fun y H3 hy e3 hy3 => h3 H3 ((e.trans e2).trans e3) _ fun z H4 hz e4 hz4 => h4 H4 (((e.trans e2).trans e3).trans e4) _ fun u H5 hu e5 hu5 => ⟨by show 4 ≤ sizeLine; decide, fun p hp => by
    have en : Ex H5 (upd H5 p (.lst [.ref x, .ref y, .ref z, .ref u])) := Ex.new hp
    exact q _ _ ((((e2.trans e3).trans e4).trans e5).trans en) ⟨p, rfl, fresh_back (((e2.trans e3).trans e4).trans e5) hp, [x, y, z, u], by rw [upd_same]; rfl, .cons ((((e3.trans e4).trans e5).trans en) _ _ hx2) (.cons (((e4.trans e5).trans en) _ _ hy3) (.cons ((e5.trans en) _ _ hz4) (.cons (en _ _ hu5) .nil)))⟩⟩
theorem er_sides1 {t1 : TE} {p1 : Ln} (h1 : EvU t1 σ H [.int p1.1, .int p1.2]) : Er (tLst (tCons t1 tNil)) σ H (RLPH [p1]) := fun H1 e Q q =>
  h1 H1 e _ fun x H2 hx e2 hx2 => ⟨by show 1 ≤ sizeLine; decide, fun p hp => by
    have en : Ex H2 (upd H2 p (.lst [.ref x])) := Ex.new hp
    exact q _ _ (e2.trans en) ⟨p, rfl, fresh_back e2 hp, [x], by rw [upd_same]; rfl, .cons (en _ _ hx2) .nil⟩⟩
theorem er_sides2 {t1 t2 : TE} {p1 p2 : Ln} (h1 : EvU t1 σ H [.int p1.1, .int p1.2]) (h2 : EvU t2 σ H [.int p2.1, .int p2.2]) : Er (tLst (tCons t1 (tCons t2 tNil))) σ H (RLPH [p1, p2]) := fun H1 e Q q =>
  h1 H1 e _ fun x H2 hx e2 hx2 => h2 H2 (e.trans e2) _ fun y H3 hy e3 hy3 => ⟨by show 2 ≤ sizeLine; decide, fun p hp => by
    have en : Ex H3 (upd H3 p (.lst [.ref x, .ref y])) := Ex.new hp
    exact q _ _ ((e2.trans e3).trans en) ⟨p, rfl, fresh_back (e2.trans e3) hp, [x, y], by rw [upd_same]; rfl, .cons ((e3.trans en) _ _ hx2) (.cons (en _ _ hy3) .nil)⟩⟩
theorem er_catP {ta tb : TE} {t : Addr} {ss ss' : List Ln} (ha : Ev ta σ H (.ref t)) (ht : LPH H t ss) (hb : Er tb σ H (RLPH ss')) (hl : ss.length + ss'.length ≤ 10000) : Er (tOp rCat ta tb) σ H (RLPH (ss ++ ss')) := fun H1 e Q q =>
  ha H1 e _ fun H2 e2 => hb H2 (e.trans e2) _ fun v H3 e3 ⟨b, hv, hb0, bs, hb1, hb2⟩ => by
    subst hv
    obtain ⟨as, h1, h2⟩ := ht
    refine ⟨t, b, _, _, rfl, rfl, ((e.trans e2).trans e3) _ _ h1, hb1, ?_, fun z hz => ?_⟩
    · rw [List.length_map, List.length_map, h2.length, hb2.length]
      exact Nat.le_trans hl (by decide)
    · have gz := Ex.new (o := .lst (as.map V.ref ++ bs.map V.ref)) hz
      exact q _ _ ((e2.trans e3).trans gz) ⟨z, rfl, fresh_back (e2.trans e3) hz, as ++ bs, by rw [upd_same, List.map_append], paired_append (paired_mono h2 fun _ _ w => (((e.trans e2).trans e3).trans gz) _ _ w) (paired_mono hb2 fun _ _ w => gz _ _ w)⟩
theorem take_fold {α β : Type} {g : β → α → β} {f : β} {l : List α} {i : Nat} {x : α} (h : l[i]? = some x) : (l.take (i + 1)).foldl g f = g ((l.take i).foldl g f) x := by
  rw [List.take_add_one, h, List.foldl_append]
  rfl
end
end AT

/-! ## form_by, and the law's own -/
namespace AT
open PySem PySem.Spec PyProof.Rows L2 Evl
theorem idx_lt {ls : List Ln} {p : Ln} (h : p ∈ ls) : ls.idxOf p < ls.length := List.idxOf_lt_length_iff.mpr h
theorem triPairs_at (t : Tr) {j : Nat} (hj : j < 3) : (triPairs t)[j]? = some (lnD (sidesOf t) j, lnD (sidesOf t) ((j + 1) % 3)) := by
  rcases (show j = 0 ∨ j = 1 ∨ j = 2 by omega) with rfl | rfl | rfl <;> rfl
theorem fold_pairs (ls : List Ln) (f : Nat → Nat → Int) (t : Tr) : ((triPairs t).take 3).foldl (pairStep ls) f = triStep ls f t := rfl
theorem pair_in {ls : List Ln} {f : Nat → Nat → Int} {p q : Ln} (h : (decide (p ∈ ls) && decide (q ∈ ls)) = true) :
    pairStep ls f (p, q) = setF (setF f (ls.idxOf p) (ls.idxOf q) (f (ls.idxOf p) (ls.idxOf q) + 1)) (ls.idxOf q) (ls.idxOf p) (setF f (ls.idxOf p) (ls.idxOf q) (f (ls.idxOf p) (ls.idxOf q) + 1) (ls.idxOf q) (ls.idxOf p) - 1) := by
  rw [Bool.and_eq_true, decide_eq_true_eq, decide_eq_true_eq] at h
  exact if_pos h
theorem pair_out {ls : List Ln} {f : Nat → Nat → Int} {p q : Ln} (h : (decide (p ∈ ls) && decide (q ∈ ls)) = false) : pairStep ls f (p, q) = f := if_neg fun z => by
  simp [z.1, z.2] at h
section
variable {P : Program} {w : World} {K : Frag} {mg : Str → Option Value} {base : Heap} {k : Nat}
theorem ok_form_by (T : Txt K mg) (G_triangles : FnOk P w K mg base CX0 k T.f_triangles T.d_triangles ["corners", "lines"] (sp_triangles K)) : FnOk P w K mg base CX0 (k + 1) T.f_form_by T.d_form_by ["corners", "lines"] (sp_form_by K) := by
  refine T.F_form_by.ok sc_form_by (fun vs H Q E h => ?_) (fun cdv A outer s H vs Q E hr h => ?_)
  · obtain ⟨n, a, ls, rfl, _⟩ := h
    rfl
  · obtain ⟨n, a, ls, rfl, hL, hn, hl1, hl2, q⟩ := h
    refine ⟨_, (pss_cons (ps_setLc (i := 2) (own := [("line", 12)]) rfl sc_form_by.nd rfl rfl (sw_true rfl rfl rfl (by decide +kernel)) (pi_listK K (pv 1)) (blkOk_by (own := [("line", 12)]) (N := N_form_by) (sc := defScope s_form_by) (by decide +kernel)) (fun _ _ _ _ _ => (pg_name (i := 12) sc_form_by.nd rfl (.inl rfl))) (fun _ _ _ _ _ => pts_nil) (fun _ _ _ _ _ => (pe_lc (own := [("other", 9)]) rfl sc_form_by.nd (pi_listK K (pv 1)) (blkOk_by (own := [("other", 9)]) (N := N_form_by) (sc := relS { kind := .function, names := [(PySem.Str.ofString ".0", PySem.NameKind.local), (PySem.Str.ofString "line", PySem.NameKind.local), (PySem.Str.ofString "lines", PySem.NameKind.free)], isGenerator := false, isCoroutine := false, more := [] } (defScope s_form_by)) (by decide +kernel)) (fun _ _ _ _ _ => (pg_name (i := 9) sc_form_by.nd rfl (.inl rfl))) (fun _ _ _ _ _ => pts_nil) (fun _ _ _ _ _ => pe_int))))
      (pss_cons (ps_for PassesOwn.never rfl (pi_listK K (pe_call G_triangles hr rfl T.m_triangles T.F_triangles.kp T.b_triangles .nil pass0 (pa_cons (pv 0) (pa_cons (pv 1) pa_nil)))) (pg_tupK K (n := 3) rfl (pgs_cons (pg_name (i := 3) sc_form_by.nd rfl (.inl rfl)) (pgs_cons (pg_name (i := 4) sc_form_by.nd rfl (.inl rfl)) (pgs_cons (pg_name (i := 5) sc_form_by.nd rfl (.inl rfl)) pgs_nil))))
        (pss_cons (ps_set (i := 6) sc_form_by.nd rfl (.inl rfl) (pe_lst (pa_cons (pe_tup (pa_cons (pv 3) (pa_cons (pv 4) pa_nil))) (pa_cons (pe_tup (pa_cons (pv 4) (pa_cons (pv 5) pa_nil))) (pa_cons (pe_tup (pa_cons (pv 3) (pa_cons (pv 5) pa_nil))) pa_nil)))))
      (pss_one (ps_for PassesOwn.never rfl (pi_range1 rfl T.b_range (pa_cons pe_int pa_nil)) (pg_name (i := 7) sc_form_by.nd rfl (.inl rfl))
        (pss_cons (ps_set (i := 8) sc_form_by.nd rfl (.inl rfl) (pe_ix (ixL K) (pv 6) (pv 7) (fun _ _ => rfl)))
      (pss_cons (ps_set (i := 9) sc_form_by.nd rfl (.inl rfl) (pe_ix (ixL K) (pv 6) (pe_op op_modN (pe_op op_add (pv 7) pe_int) pe_int) (fun _ _ => rfl)))
      (pss_one (ps_if (PW.pt (pw_and (pt_cmpR (inDK K hr.units65) (pv 8) (pv 1) rfl) (pw_and1 (pt_cmpR (inDK K hr.units65) (pv 9) (pv 1) rfl))))
        (pss_cons (ps_set (i := 10) sc_form_by.nd rfl (.inl rfl) (bmK K PySem.F.plainAttrs_list PySem.F.slot_list_index PySem.F.type_list_index (mt_indexDK K hr.units65) (pv 1) (pa_cons (pv 8) pa_nil)))
      (pss_cons (ps_set (i := 11) sc_form_by.nd rfl (.inl rfl) (bmK K PySem.F.plainAttrs_list PySem.F.slot_list_index PySem.F.type_list_index (mt_indexDK K hr.units65) (pv 1) (pa_cons (pv 9) pa_nil)))
      (pss_cons (ps_asg (pe_op op_add (pe_ix (ixL K) (pe_ix (ixL K) (pv 2) (pv 10) (fun _ _ => rfl)) (pv 11) (fun _ _ => rfl)) pe_int) (pg_sub (pe_ix (ixL K) (pv 2) (pv 10) (fun _ _ => rfl)) (pv 11) set_list))
      (pss_one (ps_asg (pe_op op_sub (pe_ix (ixL K) (pe_ix (ixL K) (pv 2) (pv 11) (fun _ _ => rfl)) (pv 10) (fun _ _ => rfl)) pe_int) (pg_sub (pe_ix (ixL K) (pv 2) (pv 11) (fun _ _ => rfl)) (pv 10) set_list))))))
        pss_nil))))))))
      (pss_one (ps_ret (pv 2))))), ?_⟩
    refine qr_asg (er_zeros (ev_var rfl) hL hl2 (fun _ => rfl) (fun _ _ => rfl) fun x H1 e1 => ev_var rfl) fun v H1 e1 ⟨p, hv, hO⟩ => ?_
    subst hv
    refine q_forE (er_tris (ea_cons (ev_var (v := .int (n : Int)) rfl) (ea_cons (ev_var (v := .ref a) rfl) ea_nil)) (hL.mono e1) hn) fun v H2 e2 ⟨t, hv, hT⟩ => ?_
    subst hv
    obtain ⟨as, ht1, ht2⟩ := id hT.2
    have hlen := ht2.length
    refine ⟨t, as.map V.ref, rfl, sq_of ht1, fun i σ' H' => ∃ x3 x4 x5 x6 x7 x8 x9 x10 x11, σ' = [some (.int (n : Int)), some (.ref a), some (.ref p), x3, x4, x5, x6, x7, x8, x9, x10, x11, none] ∧ Ex H H' ∧ Kp ls.length H2 H' ∧ OLLI H H' p (Fm ls.length (((tris n ls).take i).foldl (triStep ls) fun _ _ => 0)), ?_, ?_, ?_, ?_⟩
    · exact ⟨_, _, _, _, _, _, _, _, _, rfl, e1.trans e2, Kp.of (Ex.refl _), hO.mono e2⟩
    · rintro i σ' H' _ ⟨x3, x4, x5, x6, x7, x8, x9, x10, x11, rfl, eH, kH, _⟩
      exact sq_of (kp_lst hl1 kH ht1)
    · rintro i x σ' H' hx ⟨x3, x4, x5, x6, x7, x8, x9, x10, x11, rfl, eH, kH, hF⟩
      rw [List.getElem?_map] at hx
      cases hy : as[i]? with
      | none => rw [hy] at hx; cases hx
      | some y =>
        rw [hy] at hx
        cases hx
        obtain ⟨tr, htr, hy2⟩ := paired_getL ht2 hy
        refine ⟨y, trV tr, rfl, st_of (kp_tup kH hy2), rfl, .int (tr.1 : Int), _, rfl, .int (tr.2.1 : Int), _, rfl, .int (tr.2.2 : Int), _, rfl, rfl, ?_⟩
        refine qr_asg (er_sides3 (p1 := lnD (sidesOf tr) 0) (p2 := lnD (sidesOf tr) 1) (p3 := lnD (sidesOf tr) 2) (eu_tup (ea_cons (ev_var rfl) (ea_cons (ev_var rfl) ea_nil)) (by show 2 ≤ 100000; decide)) (eu_tup (ea_cons (ev_var rfl) (ea_cons (ev_var rfl) ea_nil)) (by show 2 ≤ 100000; decide)) (eu_tup (ea_cons (ev_var rfl) (ea_cons (ev_var rfl) ea_nil)) (by show 2 ≤ 100000; decide))) fun v H3 e3 ⟨m, hv, hm0, hm⟩ => ?_
        subst hv
        have hm : LPH H3 m (sidesOf tr) := hm
        have hst := take_fold (g := triStep ls) (f := fun _ _ => (0 : Int)) htr
        generalize ((tris n ls).take i).foldl (triStep ls) (fun _ _ => 0) = f at hF hst
        refine s_forR1 (n := 3) (ea_cons ev_c ea_nil) (by decide) (fun j σ' H' => ∃ x7 x8 x9 x10 x11, σ' = [some (.int (n : Int)), some (.ref a), some (.ref p), some (.int (tr.1 : Int)), some (.int (tr.2.1 : Int)), some (.int (tr.2.2 : Int)), some (.ref m), x7, x8, x9, x10, x11, none] ∧ Ex H H' ∧ Kp ls.length H3 H' ∧ OLLI H H' p (Fm ls.length (((triPairs tr).take j).foldl (pairStep ls) f)))
          (fun H4 e4 => ⟨_, _, _, _, _, rfl, (eH.trans e3).trans e4, Kp.of e4, (hF.mono e3).mono e4⟩) (fun j σ' H4 hj hP => ?_) (fun σ' H4 hP => ?_)
        · obtain ⟨x7, x8, x9, x10, x11, rfl, e4, k4, hF4⟩ := hP
          have hj3 : j < 3 := by omega
          have hm4 : LP K H4 m (sidesOf tr) := (hm.kp hl1 k4).lp
          have hL4 := hL.mono e4
          obtain ⟨y1, hy1, hp1⟩ := hm4.gets (i := j) (by show j < 3; exact hj3)
          obtain ⟨y2, hy2', hp2⟩ := hm4.gets (i := (j + 1) % 3) (by show (j + 1) % 3 < 3; omega)
          have hsp := take_fold (g := pairStep ls) (f := f) (triPairs_at tr hj3)
          generalize ((triPairs tr).take j).foldl (pairStep ls) f = fj at hF4 hsp
          generalize lnD (sidesOf tr) j = p1 at *
          generalize lnD (sidesOf tr) ((j + 1) % 3) = p2 at *
          refine q_asg (ev_op (ev_var (v := .ref m) rfl) (ev_var (v := .int (j : Int)) rfl) hy1) fun H5 e5 => ?_
          refine q_asg (ev_op (ev_var (v := .ref m) rfl) (ev_cast (w := .int (((j + 1) % 3 : Nat) : Int)) (ev_mod (i := (j : Int) + 1) (j := 3) (ev_op (ev_var (v := .int (j : Int)) rfl) ev_c rv_I0) ev_c (by decide)) (by congr 1)) (fun G g => hy2' G (e5.trans g))) fun H6 e6 => ?_
          have e56 := e5.trans e6
          have q1 := hp1.mono e56
          have q2 := hp2.mono e56
          have hL6 := hL4.mono e56
          refine s_when (et_and (et_test (ev_op (ev_var (v := .ref y1) rfl) (ev_var (v := .ref a) rfl) (rv_inP q1 hL6))) fun _ => et_test (ev_op (ev_var (v := .ref y2) rfl) (ev_var (v := .ref a) rfl) (rv_inP q2 hL6))) (fun hb H7 e7 => ?_) (fun hb H7 e7 => ?_)
          · rw [pair_in hb] at hsp
            rw [Bool.and_eq_true, decide_eq_true_eq, decide_eq_true_eq] at hb
            obtain ⟨m1, m2⟩ := hb
            have i1 := idx_lt m1
            have i2 := idx_lt m2
            refine q_asg (ev_indexP (ev_var (v := .ref a) rfl) (ev_var (v := .ref y1) rfl) (hL6.mono e7) (q1.mono e7) m1) fun H8 e8 => ?_
            refine q_asg (ev_indexP (ev_var (v := .ref a) rfl) (ev_var (v := .ref y2) rfl) (hL6.mono (e7.trans e8)) (q2.mono (e7.trans e8)) m2) fun H9 e9 => ?_
            have e49 := (e56.trans e7).trans (e8.trans e9)
            have hF9 := hF4.mono e49
            generalize ls.idxOf p1 = i' at *
            generalize ls.idxOf p2 = j' at *
            refine q_setFmK hF9 (e4.trans e49) i1 i2 (ev_op (ev_fm (ev_var rfl) (ev_var rfl) (ev_var rfl) hF9.lli i1 i2) ev_c rv_I0) (ev_var rfl) (ev_var rfl) (ev_var rfl) fun G1 g1 k1 hG1 => ?_
            refine s_setFmK hG1 g1 i2 i1 (ev_op (ev_fm (ev_var rfl) (ev_var rfl) (ev_var rfl) hG1.lli i2 i1) ev_c rv_I0) (ev_var rfl) (ev_var rfl) (ev_var rfl) fun G2 g2 k2 hG2 => ?_
            exact ⟨_, _, _, _, _, rfl, g2, ((k4.trans (Kp.of e49)).trans k1).trans k2, hsp ▸ hG2⟩
          · rw [pair_out hb] at hsp
            exact ⟨_, _, _, _, _, rfl, e4.trans (e56.trans e7), k4.trans (Kp.of (e56.trans e7)), hsp ▸ hF4.mono (e56.trans e7)⟩
        · obtain ⟨x7, x8, x9, x10, x11, rfl, e4, k4, hF4⟩ := hP
          exact ⟨_, _, _, _, _, _, _, _, _, rfl, e4, (kH.trans (Kp.of e3)).trans k4, hst ▸ hF4⟩
    · rintro σ' H' ⟨x3, x4, x5, x6, x7, x8, x9, x10, x11, rfl, eH, kH, hF⟩
      rw [List.length_map, hlen, List.take_length] at hF
      exact s_ret (ev_var rfl) fun H3 e3 => q H3 p (eH.trans e3) (hF.mono e3)
end
end AT

/-! ## the law's own form of a cut -/
namespace AT
open PySem PySem.Spec PyProof.Rows L2 Evl
section
variable {K : Frag} {σ : St} {H : Hp} {ta : TA} {D : Ends} {tu : TS} {te : TE}
theorem s_forZE {i1 i2 : Nat} {xs ys : List V} (h : ∀ Q : List V → Hp → Prop, (∀ a b H1, Ex H H1 → H1 a = some (.lst xs) → H1 b = some (.lst ys) → Q [.ref a, .ref b] H1) → ta σ H Q) (hl : xs.length = ys.length)
    (Pv : Addr → Addr → Nat → St → Hp → Prop) (h0 : ∀ a b H1, Ex H H1 → H1 a = some (.lst xs) → H1 b = some (.lst ys) → Pv a b 0 σ H1)
    (hq : ∀ a b i σ' H', Pv a b i σ' H' → SqL K H' a xs ∧ SqL K H' b ys)
    (hs : ∀ a b (i : Nat) x y T σ' H', xs[i]? = some x → ys[i]? = some y → Pv a b i σ' H' → H' T = none → tu { D with nx := Pv a b (i + 1), ct := Pv a b (i + 1), bk := D.nx } ((σ'.set i1 (some x)).set i2 (some y)) (upd H' T (.tup [x, y])))
    (hd : ∀ a b σ' H', Pv a b xs.length σ' H' → D.nx σ' H') : tFor (iZip K ta) (gTup K 2 (gCons (gName i1) (gCons (gName i2) gNil))) tu D σ H :=
  h _ fun a b H1 e ha hb => ⟨a, b, xs, ys, rfl, sq_of ha, sq_of hb, RZ.for_zipL hl (Pv a b) (h0 a b H1 e ha hb) (hq a b) (fun i x y T σ' H' hx hy p hT => ⟨T, [x, y], rfl, st_of upd_same, rfl, x, [y], rfl, y, [], rfl, rfl, hs a b i x y T σ' H' hx hy p hT⟩) (hd a b)⟩
end
theorem cut3 (x y z u : V) : cutV [x, y, z, u] none (some 3) = [x, y, z] := by
  unfold cutV
  rw [show HT.sIx [x, y, z, u].length [x, y, z, u].length (some 3) = min 3 [x, y, z, u].length from HT.sIx_nat _ _ 3, HT.sIx_none]
  rfl
theorem cut13 (x y z u : V) : cutV [x, y, z, u] (some 1) none = [y, z, u] := by rw [cut1]; rfl
section
variable {P : Program} {w : World} {K : Frag} {mg : Str → Option Value} {base : Heap} {k : Nat}
theorem ok__law_form_of (T : Txt K mg) (G__law_parts : FnOk P w K mg base CX0 k T.f__law_parts T.d__law_parts ["corners", "lines"] (sp_triangles K)) : FnOk P w K mg base CX0 (k + 1) T.f__law_form_of T.d__law_form_of ["corners", "lines"] (sp_form_by K) := by
  refine T.F__law_form_of.ok sc__law_form_of (fun vs H Q E h => ?_) (fun cdv A outer s H vs Q E hr h => ?_)
  · obtain ⟨n, a, ls, rfl, _⟩ := h
    rfl
  · obtain ⟨n, a, ls, rfl, hL, hn, hl1, hl2, q⟩ := h
    refine ⟨_, (pss_cons (ps_setLc (i := 2) (own := [("line", 11)]) rfl sc__law_form_of.nd rfl rfl (sw_true rfl rfl rfl (by decide +kernel)) (pi_listK K (pv 1)) (blkOk_by (own := [("line", 11)]) (N := N__law_form_of) (sc := defScope s__law_form_of) (by decide +kernel)) (fun _ _ _ _ _ => (pg_name (i := 11) sc__law_form_of.nd rfl (.inl rfl))) (fun _ _ _ _ _ => pts_nil) (fun _ _ _ _ _ => (pe_lc (own := [("other", 8)]) rfl sc__law_form_of.nd (pi_listK K (pv 1)) (blkOk_by (own := [("other", 8)]) (N := N__law_form_of) (sc := relS { kind := .function, names := [(PySem.Str.ofString ".0", PySem.NameKind.local), (PySem.Str.ofString "line", PySem.NameKind.local), (PySem.Str.ofString "lines", PySem.NameKind.free)], isGenerator := false, isCoroutine := false, more := [] } (defScope s__law_form_of)) (by decide +kernel)) (fun _ _ _ _ _ => (pg_name (i := 8) sc__law_form_of.nd rfl (.inl rfl))) (fun _ _ _ _ _ => pts_nil) (fun _ _ _ _ _ => pe_int))))
      (pss_cons (ps_for PassesOwn.never rfl (pi_listK K (pe_call G__law_parts hr rfl T.m__law_parts T.F__law_parts.kp T.b__law_parts .nil pass0 (pa_cons (pv 0) (pa_cons (pv 1) pa_nil)))) (pg_tupK K (n := 3) rfl (pgs_cons (pg_name (i := 3) sc__law_form_of.nd rfl (.inl rfl)) (pgs_cons (pg_name (i := 4) sc__law_form_of.nd rfl (.inl rfl)) (pgs_cons (pg_name (i := 5) sc__law_form_of.nd rfl (.inl rfl)) pgs_nil))))
        (pss_cons (ps_set (i := 6) sc__law_form_of.nd rfl (.inl rfl) (pe_lst (pa_cons (pe_tup (pa_cons (pv 3) (pa_cons (pv 4) pa_nil))) (pa_cons (pe_tup (pa_cons (pv 4) (pa_cons (pv 5) pa_nil))) (pa_cons (pe_tup (pa_cons (pv 3) (pa_cons (pv 5) pa_nil))) (pa_cons (pe_tup (pa_cons (pv 3) (pa_cons (pv 4) pa_nil))) pa_nil))))))
      (pss_one (ps_for PassesOwn.never rfl (pi_zipK K rfl T.b_zip (pa_cons (pe_slice (slL K) (pv 6) po_none (po_some pe_int)) (pa_cons (pe_slice (slL K) (pv 6) (po_some pe_int) po_none) pa_nil))) (pg_tupK K (n := 2) rfl (pgs_cons (pg_name (i := 7) sc__law_form_of.nd rfl (.inl rfl)) (pgs_cons (pg_name (i := 8) sc__law_form_of.nd rfl (.inl rfl)) pgs_nil)))
        (pss_one (ps_if (PW.pt (pw_and (pt_cmpR (inDK K hr.units65) (pv 7) (pv 1) rfl) (pw_and1 (pt_cmpR (inDK K hr.units65) (pv 8) (pv 1) rfl))))
        (pss_cons (ps_par (i := 9) (j := 10) rfl sc__law_form_of.nd rfl rfl (by decide) rfl rfl (pa_cons (bmK K PySem.F.plainAttrs_list PySem.F.slot_list_index PySem.F.type_list_index (mt_indexDK K hr.units65) (pv 1) (pa_cons (pv 7) pa_nil)) (pa_cons (bmK K PySem.F.plainAttrs_list PySem.F.slot_list_index PySem.F.type_list_index (mt_indexDK K hr.units65) (pv 1) (pa_cons (pv 8) pa_nil)) pa_nil)) rfl)
      (pss_cons (ps_asg (pe_op op_add (pe_ix (ixL K) (pe_ix (ixL K) (pv 2) (pv 9) (fun _ _ => rfl)) (pv 10) (fun _ _ => rfl)) pe_int) (pg_sub (pe_ix (ixL K) (pv 2) (pv 9) (fun _ _ => rfl)) (pv 10) set_list))
      (pss_one (ps_asg (pe_op op_sub (pe_ix (ixL K) (pe_ix (ixL K) (pv 2) (pv 10) (fun _ _ => rfl)) (pv 9) (fun _ _ => rfl)) pe_int) (pg_sub (pe_ix (ixL K) (pv 2) (pv 10) (fun _ _ => rfl)) (pv 9) set_list)))))
        pss_nil))))))
      (pss_one (ps_ret (pv 2))))), ?_⟩
    refine qr_asg (er_zeros (ev_var rfl) hL hl2 (fun _ => rfl) (fun _ _ => rfl) fun x H1 e1 => ev_var rfl) fun v H1 e1 ⟨p, hv, hO⟩ => ?_
    subst hv
    refine q_forE (er_tris (ea_cons (ev_var (v := .int (n : Int)) rfl) (ea_cons (ev_var (v := .ref a) rfl) ea_nil)) (hL.mono e1) hn) fun v H2 e2 ⟨t, hv, hT⟩ => ?_
    subst hv
    obtain ⟨as, ht1, ht2⟩ := id hT.2
    have hlen := ht2.length
    refine ⟨t, as.map V.ref, rfl, sq_of ht1, fun i σ' H' => ∃ x3 x4 x5 x6 x7 x8 x9 x10, σ' = [some (.int (n : Int)), some (.ref a), some (.ref p), x3, x4, x5, x6, x7, x8, x9, x10, none] ∧ Ex H H' ∧ Kp ls.length H2 H' ∧ OLLI H H' p (Fm ls.length (((tris n ls).take i).foldl (triStep ls) fun _ _ => 0)), ?_, ?_, ?_, ?_⟩
    · exact ⟨_, _, _, _, _, _, _, _, rfl, e1.trans e2, Kp.of (Ex.refl _), hO.mono e2⟩
    · rintro i σ' H' _ ⟨x3, x4, x5, x6, x7, x8, x9, x10, rfl, eH, kH, _⟩
      exact sq_of (kp_lst hl1 kH ht1)
    · rintro i x σ' H' hx ⟨x3, x4, x5, x6, x7, x8, x9, x10, rfl, eH, kH, hF⟩
      rw [List.getElem?_map] at hx
      cases hy : as[i]? with
      | none => rw [hy] at hx; cases hx
      | some y =>
        rw [hy] at hx
        cases hx
        obtain ⟨tr, htr, hy2⟩ := paired_getL ht2 hy
        refine ⟨y, trV tr, rfl, st_of (kp_tup kH hy2), rfl, .int (tr.1 : Int), _, rfl, .int (tr.2.1 : Int), _, rfl, .int (tr.2.2 : Int), _, rfl, rfl, ?_⟩
        refine qr_asg (er_sides4 (p1 := lnD (sidesOf tr) 0) (p2 := lnD (sidesOf tr) 1) (p3 := lnD (sidesOf tr) 2) (p4 := lnD (sidesOf tr) 0) (eu_tup (ea_cons (ev_var rfl) (ea_cons (ev_var rfl) ea_nil)) (by show 2 ≤ 100000; decide)) (eu_tup (ea_cons (ev_var rfl) (ea_cons (ev_var rfl) ea_nil)) (by show 2 ≤ 100000; decide)) (eu_tup (ea_cons (ev_var rfl) (ea_cons (ev_var rfl) ea_nil)) (by show 2 ≤ 100000; decide)) (eu_tup (ea_cons (ev_var rfl) (ea_cons (ev_var rfl) ea_nil)) (by show 2 ≤ 100000; decide))) fun v H3 e3 ⟨m, hv, hm0, hm⟩ => ?_
        subst hv
        obtain ⟨ms, hm1, hmp⟩ := hm
        obtain ⟨y0, y1, y2, y3, rfl, h0, h1, h2, h3⟩ : ∃ y0 y1 y2 y3, ms = [y0, y1, y2, y3] ∧ H3 y0 = some (.tup [.int (lnD (sidesOf tr) 0).1, .int (lnD (sidesOf tr) 0).2]) ∧ H3 y1 = some (.tup [.int (lnD (sidesOf tr) 1).1, .int (lnD (sidesOf tr) 1).2]) ∧ H3 y2 = some (.tup [.int (lnD (sidesOf tr) 2).1, .int (lnD (sidesOf tr) 2).2]) ∧ H3 y3 = some (.tup [.int (lnD (sidesOf tr) 0).1, .int (lnD (sidesOf tr) 0).2]) := by
          cases hmp with
          | cons r0 t0 =>
            cases t0 with
            | cons r1 t1 =>
              cases t1 with
              | cons r2 t2 =>
                cases t2 with
                | cons r3 t3 =>
                  cases t3
                  exact ⟨_, _, _, _, rfl, r0, r1, r2, r3⟩
        have hst := take_fold (g := triStep ls) (f := fun _ _ => (0 : Int)) htr
        generalize ((tris n ls).take i).foldl (triStep ls) (fun _ _ => 0) = f at hF hst
        refine s_forZE (xs := [y0, y1, y2].map V.ref) (ys := [y1, y2, y3].map V.ref) (fun Q' q' => ?_) rfl (fun a' b' j σ' H' => ∃ x7 x8 x9 x10, σ' = [some (.int (n : Int)), some (.ref a), some (.ref p), some (.int (tr.1 : Int)), some (.int (tr.2.1 : Int)), some (.int (tr.2.2 : Int)), some (.ref m), x7, x8, x9, x10, none] ∧ Ex H H' ∧ Kp ls.length H3 H' ∧ H' a' = some (.lst ([y0, y1, y2].map V.ref)) ∧ H' b' = some (.lst ([y1, y2, y3].map V.ref)) ∧ OLLI H H' p (Fm ls.length (((triPairs tr).take j).foldl (pairStep ls) f)))
          (fun a' b' H4 e4 h4 h4' => ⟨_, _, _, _, rfl, (eH.trans e3).trans e4, Kp.of e4, h4, h4', (hF.mono e3).mono e4⟩) (fun a' b' j σ' H' => ?_) (fun a' b' j x y TT σ' H0 hx hy hP hT => ?_) (fun a' b' σ' H4 hP => ?_)
        · refine el_sl (ev_var (v := .ref m) rfl) eo_none (eo_some ev_c) (sq_of hm1) H3 (Ex.refl _) _ fun b1 G1 hb1 g1 hb1' => ?_
          refine el_sl (ev_var (v := .ref m) rfl) (eo_some ev_c) eo_none (sq_of (g1 _ _ hm1)) G1 (Ex.refl _) _ fun b2 G2 hb2 g2 hb2' => ?_
          have hm1c : (([y0, y1, y2, y3].map V.ref)) = [V.ref y0, V.ref y1, V.ref y2, V.ref y3] := rfl
          rw [hm1c, cut3] at hb1'
          rw [hm1c, cut13] at hb2'
          exact q' b1 b2 G2 (g1.trans g2) (g2 _ _ hb1') hb2'
        · rintro ⟨x7, x8, x9, x10, rfl, e4, k4, h4, h4', _⟩
          exact ⟨sq_of h4, sq_of h4'⟩
        · obtain ⟨x7, x8, x9, x10, rfl, e4', k4', h4, h4', hF4⟩ := hP
          have eT : Ex H0 (upd H0 TT (.tup [x, y])) := Ex.new hT
          have e4 := e4'.trans eT
          have k4 := k4'.trans (Kp.of (n := ls.length) eT)
          have h4 := eT _ _ h4
          have h4' := eT _ _ h4'
          have hF4 := hF4.mono eT
          generalize upd H0 TT (.tup [x, y]) = H4 at e4 k4 h4 h4' hF4 ⊢
          have hj3 : j < 3 := (List.getElem?_eq_some_iff.mp hx).1
          have hL4 := hL.mono e4
          obtain ⟨w1, w2, rfl, rfl, hp1, hp2⟩ : ∃ w1 w2, x = .ref w1 ∧ y = .ref w2 ∧ PT K H4 w1 (lnD (sidesOf tr) j) ∧ PT K H4 w2 (lnD (sidesOf tr) ((j + 1) % 3)) := by
            rcases (show j = 0 ∨ j = 1 ∨ j = 2 by omega) with rfl | rfl | rfl
            · cases hx; cases hy
              exact ⟨_, _, rfl, rfl, st_of (kp_tup k4 h0), st_of (kp_tup k4 h1)⟩
            · cases hx; cases hy
              exact ⟨_, _, rfl, rfl, st_of (kp_tup k4 h1), st_of (kp_tup k4 h2)⟩
            · cases hx; cases hy
              exact ⟨_, _, rfl, rfl, st_of (kp_tup k4 h2), st_of (kp_tup k4 h3)⟩
          have hsp := take_fold (g := pairStep ls) (f := f) (triPairs_at tr hj3)
          generalize ((triPairs tr).take j).foldl (pairStep ls) f = fj at hF4 hsp
          generalize lnD (sidesOf tr) j = p1 at *
          generalize lnD (sidesOf tr) ((j + 1) % 3) = p2 at *
          refine s_when (et_and (et_test (ev_op (ev_var (v := .ref w1) rfl) (ev_var (v := .ref a) rfl) (rv_inP hp1 hL4))) fun _ => et_test (ev_op (ev_var (v := .ref w2) rfl) (ev_var (v := .ref a) rfl) (rv_inP hp2 hL4))) (fun hb H7 e7 => ?_) (fun hb H7 e7 => ?_)
          · rw [pair_in hb] at hsp
            rw [Bool.and_eq_true, decide_eq_true_eq, decide_eq_true_eq] at hb
            obtain ⟨m1, m2⟩ := hb
            have i1 := idx_lt m1
            have i2 := idx_lt m2
            refine q_par (ea_cons (ev_indexP (ev_var (v := .ref a) rfl) (ev_var (v := .ref w1) rfl) (hL4.mono e7) (hp1.mono e7) m1) (ea_cons (ev_indexP (ev_var (v := .ref a) rfl) (ev_var (v := .ref w2) rfl) (hL4.mono e7) (hp2.mono e7) m2) ea_nil)) fun H9 e9 => ?_
            have e49 := e7.trans e9
            have hF9 := hF4.mono e49
            have h9 := e49 _ _ h4
            have h9' := e49 _ _ h4'
            generalize ls.idxOf p1 = i' at *
            generalize ls.idxOf p2 = j' at *
            refine q_setFmK hF9 (e4.trans e49) i1 i2 (ev_op (ev_fm (ev_var rfl) (ev_var rfl) (ev_var rfl) hF9.lli i1 i2) ev_c rv_I0) (ev_var rfl) (ev_var rfl) (ev_var rfl) fun G1 g1 k1 hG1 => ?_
            refine s_setFmK hG1 g1 i2 i1 (ev_op (ev_fm (ev_var rfl) (ev_var rfl) (ev_var rfl) hG1.lli i2 i1) ev_c rv_I0) (ev_var rfl) (ev_var rfl) (ev_var rfl) fun G2 g2 k2 hG2 => ?_
            exact ⟨_, _, _, _, rfl, g2, ((k4.trans (Kp.of e49)).trans k1).trans k2, kp_lst hl1 (k1.trans k2) h9, kp_lst hl1 (k1.trans k2) h9', hsp ▸ hG2⟩
          · rw [pair_out hb] at hsp
            exact ⟨_, _, _, _, rfl, e4.trans e7, k4.trans (Kp.of e7), e7 _ _ h4, e7 _ _ h4', hsp ▸ hF4.mono e7⟩
        · obtain ⟨x7, x8, x9, x10, rfl, e4, k4, _, _, hF4⟩ := hP
          exact ⟨_, _, _, _, _, _, _, _, rfl, e4, (kH.trans (Kp.of e3)).trans k4, hst ▸ hF4⟩
    · rintro σ' H' ⟨x3, x4, x5, x6, x7, x8, x9, x10, rfl, eH, kH, hF⟩
      rw [List.length_map, hlen, List.take_length] at hF
      exact s_ret (ev_var rfl) fun H3 e3 => q H3 p (eH.trans e3) (hF.mono e3)
end
end AT

/-! ## all cuts of a ring, gone through by Lean's kernel -/
namespace AT
open PySem PySem.Spec PyProof.Rows L2 Evl
abbrev NL := Nat × Nat
def toLn (p : NL) : Ln := ((p.1 : Int), (p.2 : Int))
def ofLn (p : Ln) : NL := (p.1.toNat, p.2.toNat)
def crN (p q : NL) : Bool := (Nat.blt p.1 q.1 && (Nat.blt q.1 p.2 && Nat.blt p.2 q.2)) || (Nat.blt q.1 p.1 && (Nat.blt p.1 q.2 && Nat.blt q.2 p.2))
def ltN (p q : NL) : Prop := p.1 < q.1 ∨ (p.1 = q.1 ∧ p.2 < q.2)
def linesN (c : Nat) : List NL := (List.range c).flatMap fun a => ((List.range c).filter fun b => Nat.blt (a + 1) b && Nat.blt (b - a) (c - 1)).map fun b => (a, b)
/-- P of all lists of k of L, none crossing, acc ahead of them -/
def chk (P : List NL → Bool) : List NL → List NL → Nat → Bool
  | _, acc, 0 => P acc.reverse
  | [], _, _ + 1 => true
  | p :: r, acc, k + 1 => chk P r acc (k + 1) && (!(acc.all fun q => !crN q p) || chk P r (p :: acc) k)
theorem chk_all {P : List NL → Bool} : ∀ {L acc : List NL} {k : Nat} {s : List NL}, chk P L acc k = true → s.Sublist L → s.length = k → (∀ q, q ∈ acc → ∀ p, p ∈ s → crN q p = false) → s.Pairwise (fun q p => crN q p = false) → P (acc.reverse ++ s) = true
  | L, acc, 0, s, h, hs, hk, _, _ => by
    have : s = [] := List.length_eq_zero_iff.mp hk
    subst this
    rw [List.append_nil]
    cases L <;> exact h
  | [], acc, k + 1, s, h, hs, hk, _, _ => by
    have : s = [] := List.sublist_nil.mp hs
    subst this
    cases hk
  | p :: r, acc, k + 1, s, h, hs, hk, ha, hp => by
    have h : (chk P r acc (k + 1) && (!(acc.all fun q => !crN q p) || chk P r (p :: acc) k)) = true := h
    rw [Bool.and_eq_true] at h
    cases hs with
    | cons _ hs => exact chk_all h.1 hs hk ha hp
    | cons_cons _ hs =>
      rename_i s'
      have hall : (acc.all fun q => !crN q p) = true := List.all_eq_true.mpr fun q hq => by rw [ha q hq p List.mem_cons_self]; rfl
      have h2 := h.2
      rw [hall] at h2
      have h2 : chk P r (p :: acc) k = true := h2
      rw [List.pairwise_cons] at hp
      have := chk_all (s := s') h2 hs (by simpa using hk) (fun q hq u hu => by
        rcases List.mem_cons.mp hq with rfl | hq
        · exact hp.1 u hu
        · exact ha q hq u (List.mem_cons_of_mem _ hu)) hp.2
      rw [List.reverse_cons, List.append_assoc] at this
      exact this
theorem ltN_irr {p : NL} : ¬ ltN p p := fun h => by rcases h with h | ⟨_, h⟩ <;> omega
theorem ltN_tr {p q r : NL} (h1 : ltN p q) (h2 : ltN q r) : ltN p r := by
  unfold ltN at *
  omega
theorem sub_sorted : ∀ {L s : List NL}, L.Pairwise ltN → s.Pairwise ltN → (∀ p, p ∈ s → p ∈ L) → s.Sublist L
  | [], s, _, _, h => by
    cases s with
    | nil => exact .slnil
    | cons p s => exact absurd (h p List.mem_cons_self) (by simp)
  | p :: r, s, hL, hs, h => by
    rw [List.pairwise_cons] at hL
    cases s with
    | nil => exact List.nil_sublist _
    | cons q s =>
      rw [List.pairwise_cons] at hs
      by_cases e : q = p
      · subst e
        refine .cons_cons _ (sub_sorted hL.2 hs.2 fun u hu => ?_)
        rcases List.mem_cons.mp (h u (List.mem_cons_of_mem _ hu)) with e | hm
        · subst e
          exact absurd (hs.1 _ hu) ltN_irr
        · exact hm
      · refine .cons _ (sub_sorted hL.2 (List.pairwise_cons.mpr hs) fun u hu => ?_)
        have hq : q ∈ r := (List.mem_cons.mp (h q List.mem_cons_self)).resolve_left e
        rcases List.mem_cons.mp hu with rfl | hu
        · exact hq
        · refine (List.mem_cons.mp (h u (List.mem_cons_of_mem _ hu))).resolve_left fun z => ?_
          subst z
          exact ltN_irr (ltN_tr (hL.1 q hq) (hs.1 _ hu))
theorem linesN_mem {c a b : Nat} : (a, b) ∈ linesN c ↔ a < c ∧ b < c ∧ a + 1 < b ∧ b - a < c - 1 := by
  unfold linesN
  simp only [List.mem_flatMap, List.mem_range, List.mem_map, List.mem_filter, Bool.and_eq_true, Nat.blt_eq, Prod.mk.injEq]
  constructor
  · rintro ⟨x, hx, y, ⟨hy, h1, h2⟩, rfl, rfl⟩
    exact ⟨hx, hy, h1, h2⟩
  · rintro ⟨h1, h2, h3, h4⟩
    exact ⟨a, h1, b, ⟨h2, h3, h4⟩, rfl, rfl⟩
instance (p q : NL) : Decidable (ltN p q) := by unfold ltN; infer_instance
theorem linesN_sorted {c : Nat} (h1 : 4 ≤ c) (h2 : c ≤ 9) : (linesN c).Pairwise ltN := by
  rcases (show c = 4 ∨ c = 5 ∨ c = 6 ∨ c = 7 ∨ c = 8 ∨ c = 9 by omega) with rfl | rfl | rfl | rfl | rfl | rfl <;> decide +kernel
theorem ltP_iff (p q : Ln) : ltP p q = true ↔ p.1 < q.1 ∨ (p.1 = q.1 ∧ p.2 < q.2) := by
  show (if p.1 = q.1 then decide (p.2 < q.2) else decide (p.1 < q.1)) = true ↔ _
  split <;> rw [decide_eq_true_eq] <;> omega
theorem lineB_iff (c : Int) (p : Ln) : lineB c p = true ↔ 0 ≤ p.1 ∧ p.2 < c ∧ p.1 + 1 < p.2 ∧ p.2 - p.1 < c - 1 := by
  unfold lineB
  simp only [Bool.and_eq_true, decide_eq_true_eq]
theorem lineB_of {c : Int} {p : Ln} (h : lineB c p = true) : toLn (ofLn p) = p := by
  rw [lineB_iff] at h
  unfold toLn ofLn
  obtain ⟨a, b⟩ := p
  simp only [Prod.mk.injEq] at *
  omega
theorem crossB_nat (p q : NL) : crossB (toLn p) (toLn q) = crN p q := by
  unfold crossB crN toLn
  rw [Bool.eq_iff_iff]
  simp only [Bool.or_eq_true, Bool.and_eq_true, decide_eq_true_eq, Nat.blt_eq]
  omega
theorem lnD_get {ls : List Ln} {i : Nat} (h : i < ls.length) : lnD ls i = ls[i] := by
  unfold lnD
  rw [List.getD_eq_getElem?_getD, List.getElem?_eq_getElem h]
  rfl
/-- the lines of a cut, as pairs of counts -/
theorem IsCut.nat {c : Int} {ls : List Ln} (h : IsCut c ls) : ∃ (n : Nat) (s : List NL), c = (n : Int) ∧ 4 ≤ n ∧ n ≤ 9 ∧ ls = s.map toLn ∧ s.length = n - 3 ∧ s.Sublist (linesN n) ∧ s.Pairwise (fun q p => crN q p = false) ∧ s.Pairwise ltN := by
  obtain ⟨h1, h2, h3, h4⟩ := h
  have hline : ∀ p, p ∈ ls → lineB c p = true := fun p hp => by
    obtain ⟨i, hi, rfl⟩ := List.mem_iff_getElem.mp hp
    have := (h4 i hi).1
    rw [lnD_get hi] at this
    exact this
  have hmap : (ls.map ofLn).map toLn = ls := by
    rw [List.map_map]
    have : ls.map (toLn ∘ ofLn) = ls.map id := List.map_congr_left fun p hp => lineB_of (hline p hp)
    rw [this, List.map_id]
  have hof : ∀ (i : Nat) (hi : i < ls.length), toLn (ofLn (ls[i])) = ls[i] := fun i hi => lineB_of (hline _ (List.getElem_mem hi))
  have hltP : ∀ (d i : Nat), i + d + 1 < ls.length → ltP (lnD ls i) (lnD ls (i + d + 1)) = true := fun d => by
    induction d with
    | zero =>
      intro i hi
      exact (h4 (i + 0 + 1) hi).2.1 (by omega)
    | succ d ih =>
      intro i hi
      have a1 := ih i (by omega)
      have a2 := (h4 (i + (d + 1) + 1) hi).2.1 (by omega)
      have e : i + (d + 1) + 1 - 1 = i + d + 1 := by omega
      rw [e] at a2
      rw [ltP_iff] at *
      omega
  have hpair : (ls.map ofLn).Pairwise ltN := by
    rw [List.pairwise_iff_getElem]
    intro i j hi hj hij
    simp only [List.length_map] at hi hj
    have := hltP (j - i - 1) i (by omega)
    have e : i + (j - i - 1) + 1 = j := by omega
    rw [e, lnD_get hi, lnD_get hj, ltP_iff] at this
    have e1 := (lineB_iff c _).mp (hline _ (List.getElem_mem hi))
    have e2 := (lineB_iff c _).mp (hline _ (List.getElem_mem hj))
    rw [List.getElem_map, List.getElem_map]
    show (ls[i].1.toNat < ls[j].1.toNat ∨ (ls[i].1.toNat = ls[j].1.toNat ∧ ls[i].2.toNat < ls[j].2.toNat))
    omega
  refine ⟨c.toNat, ls.map ofLn, by omega, by omega, by omega, hmap.symm, by rw [List.length_map]; omega, sub_sorted (linesN_sorted (by omega) (by omega)) hpair fun p hp => ?_, ?_, hpair⟩
  · obtain ⟨u, hu, rfl⟩ := List.mem_map.mp hp
    have := (lineB_iff c _).mp (hline u hu)
    unfold ofLn
    rw [linesN_mem]
    omega
  · rw [List.pairwise_iff_getElem]
    intro i j hi hj hij
    simp only [List.length_map] at hi hj
    have := (h4 j hj).2.2 i hij
    rw [lnD_get hi, lnD_get hj, ← hof i hi, ← hof j hj, crossB_nat] at this
    rw [List.getElem_map, List.getElem_map]
    exact this
theorem cut_chk {c : Int} {ls : List Ln} {P : Nat → List NL → Bool} (h : IsCut c ls) (hP : ∀ n, 4 ≤ n → n ≤ 9 → chk (P n) (linesN n) [] (n - 3) = true) : ∃ (n : Nat) (s : List NL), c = (n : Int) ∧ 4 ≤ n ∧ n ≤ 9 ∧ ls = s.map toLn ∧ s.length = n - 3 ∧ (∀ p, p ∈ s → p.1 < p.2 ∧ p.2 < n) ∧ P n s = true := by
  obtain ⟨n, s, e1, e2, e3, e4, e5, e6, e7, e8⟩ := h.nat
  refine ⟨n, s, e1, e2, e3, e4, e5, fun p hp => ?_, ?_⟩
  · have := linesN_mem.mp (e6.subset hp)
    omega
  · have := chk_all (hP n e2 e3) e6 e5 (fun q hq => absurd hq (by simp)) e7
    exact this
/-! ### each line has a triangle -/
def sideN (n : Nat) (s : List NL) (i j : Nat) : Bool := Nat.beq j (i + 1) || (Nat.beq (j + 1) (i + n) || s.any fun p => Nat.beq p.1 i && Nat.beq p.2 j)
/-- m is the third corner of a triangle of the line p -/
def thirdN (n : Nat) (s : List NL) (p : NL) (m : Nat) : Bool :=
  (Nat.blt m p.1 && (sideN n s m p.1 && sideN n s m p.2)) || ((Nat.blt p.1 m && (Nat.blt m p.2 && (sideN n s p.1 m && sideN n s m p.2))) || (Nat.blt p.2 m && (sideN n s p.1 m && sideN n s p.2 m)))
def hasTri (n : Nat) (s : List NL) : Bool := s.all fun p => (List.range n).any fun m => thirdN n s p m
theorem hasTri_all (n : Nat) (h1 : 4 ≤ n) (h2 : n ≤ 9) : chk (hasTri n) (linesN n) [] (n - 3) = true := by
  rcases (show n = 4 ∨ n = 5 ∨ n = 6 ∨ n = 7 ∨ n = 8 ∨ n = 9 by omega) with rfl | rfl | rfl | rfl | rfl | rfl <;> decide +kernel
theorem sideN_eq {n : Nat} {s : List NL} {i j : Nat} : sideN n s i j = sideB (n : Int) (s.map toLn) (i : Int) (j : Int) := by
  unfold sideN sideB
  rw [Bool.eq_iff_iff]
  simp only [Bool.or_eq_true, Bool.and_eq_true, decide_eq_true_eq, Nat.beq_eq, List.any_eq_true]
  have e : ((∃ x, x ∈ s ∧ x.1 = i ∧ x.2 = j) ↔ ((i : Int), (j : Int)) ∈ s.map toLn) := by
    constructor
    · rintro ⟨x, hx, rfl, rfl⟩
      exact List.mem_map.mpr ⟨x, hx, rfl⟩
    · intro h
      obtain ⟨x, hx, e⟩ := List.mem_map.mp h
      unfold toLn at e
      simp only [Prod.mk.injEq] at e
      exact ⟨x, hx, by omega, by omega⟩
  have a1 : j = i + 1 ↔ (j : Int) - (i : Int) = 1 := by omega
  have a2 : j + 1 = i + n ↔ (j : Int) - (i : Int) = (n : Int) - 1 := by omega
  rw [e, a1, a2]
end AT

/-! ## the third corners of the triangles of a line -/
namespace AT
open PySem PySem.Spec PyProof.Rows L2 Evl
def hasT (t : Tr) (i : Int) : Bool := decide (i = t.1) || (decide (i = t.2.1) || decide (i = t.2.2))
def leftOf (n : Nat) (ls : List Ln) (p : Ln) : List Int := ((tris n ls).filter fun t => hasT t p.1 && hasT t p.2).map fun t => (t.1 : Int) + t.2.1 + t.2.2 - p.1 - p.2
theorem inV_three (d : Int) (t : Tr) : inV (.int d) (trV t) = hasT t d := by
  simp only [trV, inV, List.any_cons, List.any_nil, eqV, Bool.or_false, hasT]
  rw [Bool.eq_iff_iff]
  simp only [Bool.or_eq_true, beq_iff_eq, decide_eq_true_eq]
  omega
theorem tris_mem {n : Nat} {ls : List Ln} {a b c : Nat} : (a, b, c) ∈ tris n ls ↔ a < b ∧ b < c ∧ c < n ∧ triB n ls a b c = true := by
  unfold tris tri3 tri2 tri1
  simp only [List.mem_flatMap, List.mem_range, List.mem_range'_1, List.mem_map, List.mem_filter, Prod.mk.injEq]
  constructor
  · rintro ⟨a', h1, b', h2, c', ⟨h3, h4⟩, rfl, rfl, rfl⟩
    exact ⟨by omega, by omega, by omega, h4⟩
  · rintro ⟨h1, h2, h3, h4⟩
    exact ⟨a, by omega, b, by omega, c, ⟨by omega, h4⟩, rfl, rfl, rfl⟩
theorem sideN_of {n : Nat} {s : List NL} {p : NL} (h : p ∈ s) : sideB (n : Int) (s.map toLn) (p.1 : Int) (p.2 : Int) = true := by
  unfold sideB
  have : ((p.1 : Int), (p.2 : Int)) ∈ s.map toLn := List.mem_map.mpr ⟨p, h, rfl⟩
  simp [this]
theorem third_tri {n : Nat} {s : List NL} {p : NL} {m : Nat} (hp : p ∈ s) (h12 : p.1 < p.2) (h2 : p.2 < n) (hm : m < n) (h : thirdN n s p m = true) : ∃ t, t ∈ tris n (s.map toLn) ∧ hasT t p.1 = true ∧ hasT t p.2 = true := by
  unfold thirdN at h
  simp only [Bool.or_eq_true, Bool.and_eq_true, Nat.blt_eq, sideN_eq] at h
  have hs := sideN_of (n := n) hp
  rcases h with ⟨h3, h4, h5⟩ | ⟨h3, h4, h5, h6⟩ | ⟨h3, h4, h5⟩
  · exact ⟨(m, p.1, p.2), tris_mem.mpr ⟨h3, h12, h2, by unfold triB; rw [h4, hs, h5]; rfl⟩, by simp [hasT], by simp [hasT]⟩
  · exact ⟨(p.1, m, p.2), tris_mem.mpr ⟨h3, h4, h2, by unfold triB; rw [h5, hs, h6]; rfl⟩, by simp [hasT], by simp [hasT]⟩
  · exact ⟨(p.1, p.2, m), tris_mem.mpr ⟨h12, h3, hm, by unfold triB; rw [h4, hs, h5]; rfl⟩, by simp [hasT], by simp [hasT]⟩
theorem left_ne {n : Nat} {ls : List Ln} {p : Ln} (h : IsCut (n : Int) ls) (hp : p ∈ ls) : leftOf n ls p ≠ [] := by
  obtain ⟨n', s, e1, e2, e3, e4, e5, e6, e7⟩ := cut_chk (P := hasTri) h hasTri_all
  have : n' = n := by omega
  subst this
  subst e4
  obtain ⟨u, hu, rfl⟩ := List.mem_map.mp hp
  unfold hasTri at e7
  obtain ⟨m, hm, h3⟩ := List.any_eq_true.mp (List.all_eq_true.mp e7 u hu)
  obtain ⟨t, ht, h4, h5⟩ := third_tri hu (e6 u hu).1 (e6 u hu).2 (List.mem_range.mp hm) h3
  intro z
  unfold leftOf at z
  rw [List.map_eq_nil_iff] at z
  have : t ∈ ([] : List Tr) := z ▸ List.mem_filter.mpr ⟨ht, by
    show (hasT t (u.1 : Int) && hasT t (u.2 : Int)) = true
    rw [h4, h5]; rfl⟩
  cases this
/-! ### the least of ints -/
def minI (xs : List Int) : Int := 0 - maxL (xs.map fun x => 0 - x)
theorem minI_eq {xs : List Int} {m : Int} (h1 : m ∈ xs) (h2 : ∀ y, y ∈ xs → m ≤ y) : m = minI xs := by
  have := maxL_eq (xs := xs.map fun x => 0 - x) (m := 0 - m) (List.mem_map.mpr ⟨m, h1, rfl⟩) fun y hy => by
    obtain ⟨z, hz, rfl⟩ := List.mem_map.mp hy
    have := h2 z hz
    omega
  unfold minI
  omega
/-- the cut turned at a line -/
def turnC (n : Nat) (ls : List Ln) (p : Ln) : List Ln := sortP ((ls.filter fun q => !decide (q = p)) ++ [(minI (leftOf n ls p), maxL (leftOf n ls p))])
section
variable {K : Frag} {σ : St} {H H0 : Hp} {te tl tv tmn tmx : TE} {t : TT} {a p : Addr} {xs : List Int}
theorem ev_minN (h : Ev te σ H (.ref a)) (hL : LI K H a xs) (hn : xs ≠ []) : Ev (tCB (rMin K) (tCons te tNil)) σ H (.int (minI xs)) := fun H1 e Q q =>
  h H1 e _ fun H2 e2 => ⟨a, xs, rfl, hL.mono (e.trans e2), List.length_pos_iff.mpr hn, fun m hm hle => by
    rw [minI_eq hm hle]
    exact q H2 e2⟩
theorem given_filter {α : Type} (d : α) (l : List α) (g : α → Bool) (v : α → V) : given l.length (fun j => g (l.getD j d)) (fun j => v (l.getD j d)) = (l.filter g).map v := by
  unfold given
  conv => rhs; rw [list_eq_range d l]
  rw [List.filter_map, List.map_map]
  rfl
/-- over a list that the reading makes -/
theorem el_lcE {R0 : R3} {j n : Nat} {vs : List Nat} (f : Nat → Bool) (v : Nat → V) (h : Er tl σ H R0) (hz : n ≤ 40000) (hw : ∀ x, wipe ((wipe σ vs).set j (some x)) vs = wipe σ vs)
    (hs : ∀ H1 H2 v0, Ex H H1 → Ex H1 H2 → R0 H1 H2 v0 → ∃ a xs, v0 = .ref a ∧ SqL K H2 a xs ∧ xs.length = n ∧ ∀ (i : Nat) x H3, xs[i]? = some x → Ex H2 H3 → EvT t ((wipe σ vs).set j (some x)) H3 (f i) ∧ (f i = true → Ev te ((wipe σ vs).set j (some x)) H3 (v i))) :
    EvL (tLc (iList K tl) (gName j) t te vs) σ H (given n f v) := fun H0 e Q q => h H0 e _ fun v0 H1 e1 r => by
  obtain ⟨a, xs, ev, hx, hn, hi⟩ := hs H0 H1 v0 e e1 r
  subst ev
  subst hn
  exact ⟨a, rfl, ⟨xs, hx⟩, fun Dl hD =>
    lc_list (xs := xs) (Cw H1 f v Dl) ⟨hD, Ex.new hD, upd_same⟩ (fun i H' _ p => ex_l p.2.1 hx) (fun i x H' hj p => ⟨hw x, cw_turn p (by have := (List.getElem?_eq_some_iff.mp hj).1; omega) ((hi i x H1 hj (Ex.refl _)).1) (fun hf => (hi i x H1 hj (Ex.refl _)).2 hf)⟩)
      (fun H' p => q Dl H' (fresh_back e1 p.1) (e1.trans p.2.1) p.2.2)⟩
/-- [one for one in lines if one != line] + [(min, max)] -/
theorem er_newcut {j : Nat} {vs : List Nat} {ls : List Ln} {lx : Addr} {u : Ln} {mn mx : Int} (h : Ev tl σ H (.ref a)) (hL : LP K H a ls) (hl : ls.length ≤ 1000) (hw : ∀ x, wipe ((wipe σ vs).set j (some x)) vs = wipe σ vs) (hj : ∀ x, ((wipe σ vs).set j (some x))[j]? = some (some x))
    (hv : ∀ x H1, Ev tv ((wipe σ vs).set j (some x)) H1 (.ref lx)) (hu : PT K H lx u) (h1 : Ev tmn σ H (.int mn)) (h2 : Ev tmx σ H (.int mx)) :
    Er (tOp rCat (tLc (iList K tl) (gName j) (tTest (tOp (rNeD K) (tVar j) tv)) (tVar j) vs) (tLst (tCons (tTup (tCons tmn (tCons tmx tNil))) tNil))) σ H (fun _ H2 v => ∃ b, v = .ref b ∧ LP K H2 b ((ls.filter fun q => !decide (q = u)) ++ [(mn, mx)])) := fun H1 e Q q => by
  obtain ⟨as, hA, hP⟩ := id hL
  have hlen := hP.length
  obtain ⟨z1, z2⟩ := zip_of hP.length
  have hz := paired_zip hP
  generalize as.zip ls = zs at *
  subst z1; subst z2
  have hll := hl
  rw [List.length_map] at hll
  let d : Addr × Ln := (0, (0, 0))
  have hx : ∀ (i : Nat) (x : V), ((zs.map (·.1)).map V.ref)[i]? = some x → zs[i]? = some (zs.getD i d) ∧ x = .ref (zs.getD i d).1 := fun i x hx => by
    rw [List.map_map, List.getElem?_map] at hx
    cases hy : zs[i]? with
    | none => rw [hy] at hx; cases hx
    | some y =>
      rw [hy] at hx
      cases hx
      rw [List.getD_eq_getElem?_getD, hy]
      exact ⟨rfl, rfl⟩
  have hlc := el_lcL (K := K) (te := tVar j) (t := tTest (tOp (rNeD K) (tVar j) tv)) (fun i => !decide ((zs.getD i d).2 = u)) (fun i => .ref (zs.getD i d).1) h hA (by rw [List.length_map, List.length_map]; omega) hw
    (fun i x G1 g1 hxi => by
      obtain ⟨c1, rfl⟩ := hx i x hxi
      exact et_test (ev_op (ev_var (hj _)) (hv _ G1) (rv_neP ((hz _ (List.mem_of_getElem? c1)).mono g1) (hu.mono g1))))
    (fun i x G1 g1 hxi _ => by
      obtain ⟨c1, rfl⟩ := hx i x hxi
      exact ev_var (hj _))
  rw [List.length_map, List.length_map, given_filter d zs (fun z => !decide (z.2 = u)) (fun z => .ref z.1)] at hlc
  refine hlc H1 e _ fun b1 H2 hb1 e2 hb1' => ?_
  refine h1 H2 (e.trans e2) _ fun H3 e3 => h2 H3 ((e.trans e2).trans e3) _ fun H4 e4 => ?_
  refine ⟨by show 2 ≤ sizeLine; decide, fun y hy => ?_⟩
  have ey : Ex H4 (upd H4 y (.tup [.int mn, .int mx])) := Ex.new hy
  refine ⟨by show 1 ≤ sizeLine; decide, fun b2 hb2 => ?_⟩
  have eb : Ex (upd H4 y (.tup [.int mn, .int mx])) (upd (upd H4 y (.tup [.int mn, .int mx])) b2 (.lst [.ref y])) := Ex.new hb2
  have e25 := ((e3.trans e4).trans ey).trans eb
  refine ⟨b1, b2, _, _, rfl, rfl, e25 _ _ hb1', upd_same, ?_, fun b3 hb3 => ?_⟩
  · rw [List.length_map]
    have := List.length_filter_le (fun z : Addr × Ln => !decide (z.2 = u)) zs
    refine Nat.le_trans (m := 2000) ?_ (by decide)
    show _ + 1 ≤ 2000
    omega
  · have eb3 := Ex.new (o := .lst ((zs.filter fun z => !decide (z.2 = u)).map (fun z => V.ref z.1) ++ [.ref y])) hb3
    refine q _ _ ((e2.trans e25).trans eb3) ⟨b3, rfl, (zs.filter fun z => !decide (z.2 = u)).map (·.1) ++ [y], ?_, ?_⟩
    · refine sq_of ?_
      rw [upd_same, List.map_append, List.map_map]
      rfl
    · have hf : (zs.map (·.2)).filter (fun q => !decide (q = u)) = (zs.filter fun z => !decide (z.2 = u)).map (·.2) := by rw [List.filter_map]; rfl
      rw [hf]
      refine paired_append (paired_of_zip fun z hz' => ((hz z (List.mem_filter.mp hz').1).mono (e.trans ((e2.trans e25).trans eb3)))) (.cons (st_of ((eb.trans eb3) _ _ upd_same)) .nil)
end
end AT

/-! ## form_of, cut_turned -/
namespace AT
open PySem PySem.Spec PyProof.Rows L2 Evl
def sp_form_of (K : Frag) (CC : Addr) : Sp := fun vs H Q E => ∃ (c : Int) (a : Addr) (ls : List Ln), vs = [.int c, .ref a] ∧ LP K H a ls ∧ ls.length ≤ 100 ∧ (¬ IsCut c ls → ∀ H', Ex H H' → E (.ref CC) none H') ∧
  (∀ n : Nat, c = n → IsCut n ls → ∀ H' p, Ex H H' → OLLI H H' p (Fm ls.length (formF n ls)) → Q (.ref p) H')
def sp_cut_turned (K : Frag) (CC CB : Addr) : Sp := fun vs H Q E => ∃ (c : Int) (a x : Addr) (ls : List Ln) (u : Ln), vs = [.int c, .ref a, .ref x] ∧ LP K H a ls ∧ ls.length ≤ 100 ∧ PT K H x u ∧ (¬ IsCut c ls → ∀ H', Ex H H' → E (.ref CC) none H') ∧
  (IsCut c ls → u ∉ ls → ∀ H', Ex H H' → E (.ref CB) none H') ∧ (∀ n : Nat, c = n → IsCut n ls → u ∈ ls → ∀ H' p, Ex H H' → OLP K H H' p (turnC n ls u) → Q (.ref p) H')
theorem IsCut.nat_len {n : Nat} {ls : List Ln} (h : IsCut (n : Int) ls) : n ≤ 9 ∧ 4 ≤ n ∧ ls.length = n - 3 ∧ 1 ≤ ls.length ∧ ls.length ≤ 6 := by
  obtain ⟨h1, h2, h3, _⟩ := h
  omega
section
variable {K : Frag} {σ : St} {H H0 H1 : Hp} {te : TE} {ta : TA} {E : XK} {a x : Addr} {n : Nat} {ls : List Ln} {u : Ln}
theorem er_formby (h : EvA ta σ H [.int (n : Int), .ref a]) (hL : LP K H a ls) (hC : IsCut n ls) : Er (tCall (sp_form_by K) [] E ta) σ H (RM (Fm ls.length (formF n ls))) :=
  er_call mon_RM h fun H1 e1 Q q E => ⟨n, a, ls, rfl, hL.mono e1, by have := hC.nat_len; omega, by have := hC.nat_len; omega, by have := hC.nat_len; omega, fun H' p e hO => q _ H' e ⟨p, rfl, hO⟩⟩
theorem er_formof {CC : Addr} (h : EvA ta σ H [.int (n : Int), .ref a]) (hL : LP K H a ls) (hC : IsCut n ls) : Er (tCall (sp_form_of K CC) [] E ta) σ H (RM (Fm ls.length (formF n ls))) :=
  er_call mon_RM h fun H1 e1 Q q E => ⟨n, a, ls, rfl, hL.mono e1, by have := hC.nat_len; omega, fun z => absurd hC z, fun m e hC' H' p e2 hO => by
    have : m = n := by omega
    subst this
    exact q _ H' e2 ⟨p, rfl, hO⟩⟩
theorem er_cutt {CC CB : Addr} (h : EvA ta σ H [.int (n : Int), .ref a, .ref x]) (hL : LP K H a ls) (hC : IsCut n ls) (hx : PT K H x u) (hu : u ∈ ls) : Er (tCall (sp_cut_turned K CC CB) [] E ta) σ H (RLP K (turnC n ls u)) :=
  er_call mon_RLP h fun H1 e1 Q q E => ⟨n, a, x, ls, u, rfl, hL.mono e1, by have := hC.nat_len; omega, hx.mono e1, fun z => absurd hC z, fun _ z => absurd hu z, fun m e hC' _ H' p e2 hO => by
    have : m = n := by omega
    subst this
    exact q _ H' e2 ⟨p, rfl, hO⟩⟩
/-- what is not l stays -/
def Sx (l : Addr) (H H1 : Hp) : Prop := ∀ (y : Addr) (o : HO), y ≠ l → H y = some o → H1 y = some o
theorem Sx.of {l : Addr} {H H1 : Hp} (e : Ex H H1) : Sx l H H1 := fun y o _ h => e y o h
theorem Sx.trans {l : Addr} {H H1 H2 : Hp} (a : Sx l H H1) (b : Sx l H1 H2) : Sx l H H2 := fun y o n h => b y o n (a y o n h)
theorem Sx.upd {l : Addr} {H : Hp} {o : HO} : Sx l H (upd H l o) := fun y o n h => by rw [upd_ne n]; exact h
end
section
variable {P : Program} {w : World} {K : Frag} {mg : Str → Option Value} {base : Heap} {k : Nat}
theorem ok_form_of (T : Txt K mg) (G_must_cut : FnOk P w K mg base (L2.CX P w) k T.f_must_cut T.d_must_cut ["corners", "lines"] (sp_must_cut K T.c_NoCut)) (G_form_by : FnOk P w K mg base CX0 k T.f_form_by T.d_form_by ["corners", "lines"] (sp_form_by K)) :
    FnOk P w K mg base (L2.CX P w) (k + 1) T.f_form_of T.d_form_of ["corners", "lines"] (sp_form_of K T.c_NoCut) := by
  refine T.F_form_of.okX sc_form_of (fun vs H Q E h => ?_) (fun cdv A outer s H vs Q E hr h => ?_)
  · obtain ⟨c, a, ls, rfl, _⟩ := h
    rfl
  · obtain ⟨c, a, ls, rfl, hL, hl, q1, q2⟩ := h
    refine ⟨_, (pss_cons (ps_expr (pe_call G_must_cut hr rfl T.m_must_cut T.F_must_cut.kp T.b_must_cut .nil (passes_call (takes_of rfl rfl rfl rfl) (fun _ _ _ _ h => h)) (pa_cons (pv 0) (pa_cons (pv 1) pa_nil))))
      (pss_one (ps_ret (pe_call G_form_by hr rfl T.m_form_by T.F_form_by.kp T.b_form_by .nil pass0 (pa_cons (pv 0) (pa_cons (pv 1) pa_nil)))))), ?_⟩
    refine ⟨.int c, rfl, .ref a, rfl, c, a, ls, rfl, hL, hl, fun H1 e1 => ⟨fun hC => ?_, fun z => q1 z H1 e1⟩⟩
    obtain ⟨n, rfl⟩ : ∃ n : Nat, c = n := ⟨c.toNat, by have := hC.1; omega⟩
    dsimp only
    refine sr_ret (er_formby (ea_cons (ev_var rfl) (ea_cons (ev_var rfl) ea_nil)) (hL.mono e1) hC) fun v H2 e2 ⟨p, hv, hO⟩ => ?_
    subst hv
    exact q2 n rfl hC H2 p (e1.trans e2) (hO.back e1)
theorem ok_cut_turned (T : Txt K mg) (G_must_cut : FnOk P w K mg base (L2.CX P w) k T.f_must_cut T.d_must_cut ["corners", "lines"] (sp_must_cut K T.c_NoCut)) (G_triangles : FnOk P w K mg base CX0 k T.f_triangles T.d_triangles ["corners", "lines"] (sp_triangles K)) :
    FnOk P w K mg base (L2.CX P w) (k + 1) T.f_cut_turned T.d_cut_turned ["corners", "lines", "line"] (sp_cut_turned K T.c_NoCut T.c_NoBox) := by
  refine T.F_cut_turned.okX sc_cut_turned (fun vs H Q E h => ?_) (fun cdv A outer s H vs Q E hr h => ?_)
  · obtain ⟨c, a, x, ls, u, rfl, _⟩ := h
    rfl
  · obtain ⟨c, a, x, ls, u, rfl, hL, hl, hx, q1, q2, q3⟩ := h
    refine ⟨_, (pss_cons (ps_expr (pe_call G_must_cut hr rfl T.m_must_cut T.F_must_cut.kp T.b_must_cut .nil (passes_call (takes_of rfl rfl rfl rfl) (fun _ _ _ _ h => h)) (pa_cons (pv 0) (pa_cons (pv 1) pa_nil))))
      (pss_cons (ps_if (pt_cmpR (ninDK K hr.units65) (pv 2) (pv 1) rfl)
        (pss_one (ps_raise rfl (takes_of rfl rfl rfl rfl) (pmk_own PySem.F.excBase_ValueError T.x_NoBox.xn T.x_NoBox.g T.x_NoBox.kp (raises_own T.x_NoBox.bs T.x_NoBox.ty) rfl)))
        pss_nil)
      (pss_cons (ps_set (i := 3) sc_cut_turned.nd rfl (.inl rfl) (pe_lst pa_nil))
      (pss_cons (ps_for (passes_of rfl) rfl (pi_listK K (pe_call G_triangles hr rfl T.m_triangles T.F_triangles.kp T.b_triangles .nil pass0 (pa_cons (pv 0) (pa_cons (pv 1) pa_nil)))) (pg_name (i := 4) sc_cut_turned.nd rfl (.inl rfl))
        (pss_one (ps_if (PW.pt (pw_and (pt_cmpR (inK K) (pe_ix (ixT K) (pv 2) pe_int (fun _ _ => rfl)) (pv 4) rfl) (pw_and1 (pt_cmpR (inK K) (pe_ix (ixT K) (pv 2) pe_int (fun _ _ => rfl)) (pv 4) rfl))))
        (pss_one (ps_expr (bmK K PySem.F.plainAttrs_list PySem.F.slot_list_append PySem.F.type_list_append mt_append (pv 3) (pa_cons (pe_op op_sub (pe_op op_sub (pe_callB (sumTK K rfl) rfl T.b_sum (by decide +kernel) (pa_cons (pv 4) pa_nil)) (pe_ix (ixT K) (pv 2) pe_int (fun _ _ => rfl))) (pe_ix (ixT K) (pv 2) pe_int (fun _ _ => rfl))) pa_nil))))
        pss_nil)))
      (pss_one (ps_ret (pe_callB (sortedDK K hr.units) rfl T.b_sorted (by decide +kernel) (pa_cons (pe_op op_cat (pe_lc (own := [("one", 5)]) rfl sc_cut_turned.nd (pi_listK K (pv 1)) (blkOk_by (own := [("one", 5)]) (N := N_cut_turned) (sc := defScope s_cut_turned) (by decide +kernel)) (fun _ _ _ _ _ => (pg_name (i := 5) sc_cut_turned.nd rfl (.inl rfl))) (fun _ _ _ _ _ => (pts_one (pt_cmpR (neDK K hr.units) (pv 5) (pv 2) (nomark _)))) (fun _ _ _ _ _ => (pv 5))) (pe_lst (pa_cons (pe_tup (pa_cons (pe_callB (minK K rfl) rfl T.b_min (by decide +kernel) (pa_cons (pv 3) pa_nil)) (pa_cons (pe_callB (maxK K rfl) rfl T.b_max (by decide +kernel) (pa_cons (pv 3) pa_nil)) pa_nil))) pa_nil))) pa_nil)))))))), ?_⟩
    refine ⟨.int c, rfl, .ref a, rfl, c, a, ls, rfl, hL, hl, fun H1 e1 => ⟨fun hC => ?_, fun z => q1 z H1 e1⟩⟩
    dsimp only
    refine q_when (et_test (ev_op (ev_var (v := .ref x) rfl) (ev_var (v := .ref a) rfl) (rv_ninP (hx.mono e1) (hL.mono e1)))) (fun hb H2 e2 => ?_) (fun hb H2 e2 => ?_)
    · rw [Bool.not_eq_true', decide_eq_false_iff_not] at hb
      exact q2 hC hb H2 (e1.trans e2)
    · rw [Bool.not_eq_false', decide_eq_true_eq] at hb
      obtain ⟨n, rfl⟩ : ∃ n : Nat, c = n := ⟨c.toNat, by have := hC.1; omega⟩
      have hn := hC.nat_len
      have e02 := e1.trans e2
      refine q_asgL (xs := []) (el_lst ea_nil (by simp)) fun l H3 hl3 e3 hl3' => ?_
      have e03 := e02.trans e3
      refine q_forE (er_tris (ea_cons (ev_var (v := .int (n : Int)) rfl) (ea_cons (ev_var (v := .ref a) rfl) ea_nil)) (hL.mono e03) (by omega)) fun v H4 e4 ⟨t, hv, hT⟩ => ?_
      subst hv
      obtain ⟨as, ht1, ht2⟩ := id hT.2
      have hlen := ht2.length
      have htl : l ≠ t := ne_of_none hl3' hT.1
      let W : List Tr → List Int := fun ts => (ts.filter fun t => hasT t u.1 && hasT t u.2).map fun t => (t.1 : Int) + t.2.1 + t.2.2 - u.1 - u.2
      have hWlen : ∀ i, (W ((tris n ls).take i)).length ≤ 10000 := fun i => by
        show (((((tris n ls).take i).filter _).map _).length ≤ 10000)
        rw [List.length_map]
        refine Nat.le_trans (List.length_filter_le _ _) ?_
        rw [List.length_take]
        have h1 := tri3_len (ls := ls) (n := n) (m := n) (by omega)
        have h2 : n * (n * n) ≤ 9 * (9 * 9) := Nat.mul_le_mul (by omega) (Nat.mul_le_mul (by omega) (by omega))
        show min i (tri3 n ls n).length ≤ 10000
        omega
      refine ⟨t, as.map V.ref, rfl, sq_of ht1, fun i σ' H' => ∃ x4, σ' = [some (.int (n : Int)), some (.ref a), some (.ref x), some (.ref l), x4, none] ∧ Ex H H' ∧ Sx l H4 H' ∧ H' l = some (.lst ((W ((tris n ls).take i)).map V.int)), ?_, ?_, ?_, ?_⟩
      · exact ⟨_, rfl, e03.trans e4, Sx.of (Ex.refl _), e4 _ _ hl3'⟩
      · rintro i σ' H' _ ⟨x4, rfl, eH, kH, _⟩
        exact sq_of (kH _ _ htl.symm ht1)
      · rintro i y σ' H' hy ⟨x4, rfl, eH, kH, hl'⟩
        rw [List.getElem?_map] at hy
        cases hz : as[i]? with
        | none => rw [hz] at hy; cases hy
        | some z =>
          rw [hz] at hy
          cases hy
          obtain ⟨tr, htr, hz2⟩ := paired_getL ht2 hz
          have hzt : H' z = some (.tup (trV tr)) := kH _ _ (fun e => by
            subst e
            have h1 := e4 _ _ hl3'
            rw [hz2] at h1
            cases h1) hz2
          have hst : W ((tris n ls).take (i + 1)) = W ((tris n ls).take i) ++ if (hasT tr u.1 && hasT tr u.2) = true then [(tr.1 : Int) + tr.2.1 + tr.2.2 - u.1 - u.2] else [] := by
            show (((tris n ls).take (i + 1)).filter _).map _ = _
            rw [List.take_add_one, htr, List.filter_append, List.map_append]
            congr 1
            show ([tr].filter _).map _ = _
            rw [List.filter_cons]
            split <;> rfl
          have hx' := hx.mono eH
          have hzs : SqT K H' z (trV tr) := st_of hzt
          refine s_when (b := hasT tr u.1 && hasT tr u.2) (et_is (et_and (et_test (ev_op (ev_p1 (ev_var (v := .ref x) rfl) ev_c hx') (ev_var (v := .ref z) rfl) (rv_isT hzs rfl rfl))) fun _ => et_test (ev_op (ev_p2 (ev_var (v := .ref x) rfl) ev_c hx') (ev_var (v := .ref z) rfl) (rv_isT hzs rfl rfl))) (by rw [inV_three, inV_three])) (fun hb H5 e5 => ?_) (fun hb H5 e5 => ?_)
          · rw [if_pos hb] at hst
            have hx5 := hx'.mono e5
            refine s_app (xs := (W ((tris n ls).take i)).map V.int) (v := .int ((tr.1 : Int) + tr.2.1 + tr.2.2 - u.1 - u.2)) (e5 _ _ hl') (ev_var rfl) (ev_cast (ev_op (ev_op (ev_sumT (ns := [(tr.1 : Int), (tr.2.1 : Int), (tr.2.2 : Int)]) (ev_var (v := .ref z) rfl) (ex_t e5 hzs)) (ev_p1 (ev_var (v := .ref x) rfl) ev_c hx5) rv_I0) (ev_p2 (ev_var (v := .ref x) rfl) ev_c hx5) rv_I0) ?_) (by rw [List.length_map]; have := hWlen i; omega) fun H6 e6 => ⟨_, rfl, Ex.mut ((eH.trans e5).trans e6) (fresh_back e02 hl3), (kH.trans (Sx.of (e5.trans e6))).trans Sx.upd, ?_⟩
            · congr 1
              simp only [List.sum_cons, List.sum_nil]
              omega
            · rw [upd_same, hst, List.map_append]
              rfl
          · rw [if_neg (by rw [hb]; decide), List.append_nil] at hst
            refine ⟨_, rfl, eH.trans e5, kH.trans (Sx.of e5), ?_⟩
            rw [hst]
            exact e5 _ _ hl'
      · rintro σ' H' ⟨x4, rfl, eH, kH, hl'⟩
        rw [List.length_map, hlen, List.take_length] at hl'
        have hLI : LI K H' l (leftOf n ls u) := sq_of hl'
        have hne := left_ne hC hb
        refine sr_ret (er_sortedP (er_newcut (ev_var (v := .ref a) rfl) (hL.mono eH) (by omega) (fun _ => rfl) (fun _ => rfl) (fun _ _ => ev_var rfl) (hx.mono eH) (ev_minN (ev_var rfl) hLI hne) (ev_maxN (ev_var rfl) hLI hne)) (fun G1 G2 v hv => hv) ?_) fun v H5 e5 ⟨p, hv, hO⟩ => ?_
        · have := List.length_filter_le (fun q => !decide (q = u)) ls
          rw [List.length_append]
          show _ + 1 ≤ 10000
          omega
        · subst hv
          exact q3 n rfl hC hb H5 p (eH.trans e5) (hO.back eH)
end
end AT

/-! ## the drawn cut: a stack of spans, each split at a drawn corner -/
namespace AT
open PySem PySem.Spec PyProof.Rows L2 Evl
def mrun (A : Nat → Nat → Nat) (c : Nat) : Nat → List NL → List NL → List NL
  | 0, _, ls => ls
  | _ + 1, [], ls => ls
  | f + 1, p :: st, ls => if 1 < p.2 - p.1 then mrun A c f ((A p.1 p.2, p.2) :: (p.1, A p.1 p.2) :: st) (if p.2 - p.1 < c - 1 then ls ++ [p] else ls) else mrun A c f st ls
def chkM (P : List NL → Bool) (c : Nat) : Nat → List NL → List NL → Bool
  | 0, _, ls => P ls
  | _ + 1, [], ls => P ls
  | f + 1, p :: st, ls => if Nat.blt 1 (p.2 - p.1) then (List.range (p.2 - p.1 - 1)).all fun d => chkM P c f ((p.1 + 1 + d, p.2) :: (p.1, p.1 + 1 + d) :: st) (if Nat.blt (p.2 - p.1) (c - 1) then ls ++ [p] else ls) else chkM P c f st ls
theorem chkM_run {P : List NL → Bool} {A : Nat → Nat → Nat} {c : Nat} (hA : ∀ i j, 1 < j - i → i < A i j ∧ A i j < j) : ∀ {f : Nat} {st ls : List NL}, chkM P c f st ls = true → P (mrun A c f st ls) = true
  | 0, _, _, h => h
  | _ + 1, [], _, h => h
  | f + 1, p :: st, ls, h => by
    unfold chkM at h
    unfold mrun
    simp only [Nat.blt_eq] at h
    by_cases h1 : 1 < p.2 - p.1
    · rw [if_pos h1] at h ⊢
      obtain ⟨a1, a2⟩ := hA p.1 p.2 h1
      have := List.all_eq_true.mp h (A p.1 p.2 - p.1 - 1) (List.mem_range.mpr (by omega))
      have e : p.1 + 1 + (A p.1 p.2 - p.1 - 1) = A p.1 p.2 := by omega
      rw [e] at this
      exact chkM_run hA this
    · rw [if_neg h1] at h ⊢
      exact chkM_run hA h
def ltNb (p q : NL) : Bool := Nat.blt p.1 q.1 || (Nat.beq p.1 q.1 && Nat.blt p.2 q.2)
theorem ltNb_iff {p q : NL} : ltNb p q = true ↔ ltN p q := by
  unfold ltNb ltN
  simp only [Bool.or_eq_true, Bool.and_eq_true, Nat.blt_eq, Nat.beq_eq]
def insN (p : NL) : List NL → List NL
  | [] => [p]
  | q :: r => if ltNb p q then p :: q :: r else q :: insN p r
def isortN : List NL → List NL
  | [] => []
  | p :: r => insN p (isortN r)
theorem insN_perm (p : NL) : ∀ l : List NL, (insN p l).Perm (p :: l)
  | [] => .refl _
  | q :: r => by
    unfold insN
    split
    · exact .refl _
    · exact ((insN_perm p r).cons q).trans (.swap p q r)
theorem isortN_perm : ∀ l : List NL, (isortN l).Perm l
  | [] => .refl _
  | p :: r => (insN_perm p _).trans ((isortN_perm r).cons p)
/-- a list of lines is a cut, looked at by the kernel -/
def sortedN : List NL → Bool
  | p :: q :: r => ltNb p q && sortedN (q :: r)
  | _ => true
def apartN : List NL → Bool
  | [] => true
  | p :: r => r.all (fun q => !crN p q) && apartN r
def cutN (c : Nat) (s : List NL) : Bool := Nat.beq s.length (c - 3) && (s.all (fun p => Nat.blt (p.1 + 1) p.2 && (Nat.blt p.2 c && Nat.blt (p.2 - p.1) (c - 1))) && (sortedN s && apartN s))
theorem sortedN_pw : ∀ {s : List NL}, sortedN s = true → s.Pairwise ltN
  | [], _ => .nil
  | [p], _ => List.pairwise_singleton _ _
  | p :: q :: r, h => by
    have h : (ltNb p q && sortedN (q :: r)) = true := h
    rw [Bool.and_eq_true, ltNb_iff] at h
    have ih := sortedN_pw h.2
    refine List.pairwise_cons.mpr ⟨fun u hu => ?_, ih⟩
    rcases List.mem_cons.mp hu with rfl | hu
    · exact h.1
    · exact ltN_tr h.1 ((List.pairwise_cons.mp ih).1 u hu)
theorem apartN_pw : ∀ {s : List NL}, apartN s = true → s.Pairwise (fun q p => crN q p = false)
  | [], _ => .nil
  | p :: r, h => by
    have h : (r.all (fun q => !crN p q) && apartN r) = true := h
    rw [Bool.and_eq_true] at h
    refine List.pairwise_cons.mpr ⟨fun u hu => ?_, apartN_pw h.2⟩
    have := List.all_eq_true.mp h.1 u hu
    simpa using this
theorem ltP_toLn {p q : NL} : ltP (toLn p) (toLn q) = true ↔ ltN p q := by
  rw [ltP_iff]
  unfold toLn ltN
  omega
theorem cutN_is {c : Nat} {s : List NL} (h1 : 4 ≤ c) (h2 : c ≤ 9) (h : cutN c s = true) : IsCut (c : Int) (s.map toLn) := by
  unfold cutN at h
  simp only [Bool.and_eq_true, Nat.beq_eq] at h
  obtain ⟨hl, ha, hs, hx⟩ := h
  have hs := sortedN_pw hs
  have hx := apartN_pw hx
  refine ⟨by omega, by omega, by rw [List.length_map]; omega, fun k hk => ?_⟩
  rw [List.length_map] at hk
  have hget : ∀ i, (hi : i < s.length) → lnD (s.map toLn) i = toLn s[i] := fun i hi => by
    rw [lnD_get (by rw [List.length_map]; exact hi), List.getElem_map]
  refine ⟨?_, fun h0 => ?_, fun j hj => ?_⟩
  · rw [hget k hk, lineB_iff]
    have := List.all_eq_true.mp ha s[k] (List.getElem_mem hk)
    simp only [Bool.and_eq_true, Nat.blt_eq] at this
    unfold toLn
    dsimp only
    omega
  · rw [hget k hk, hget (k - 1) (by omega), ltP_toLn]
    exact List.pairwise_iff_getElem.mp hs (k - 1) k (by omega) hk (by omega)
  · rw [hget k hk, hget j (by omega), crossB_nat]
    exact List.pairwise_iff_getElem.mp hx j k (by omega) hk hj
theorem leP_of {p q : Ln} (h : ltP p q = true) : leP p q = true := by
  unfold leP
  rw [Bool.not_eq_true', ← Bool.not_eq_true, ltP_iff]
  rw [ltP_iff] at h
  omega
theorem leP_tr (a b c : Ln) : leP a b = true → leP b c = true → leP a c = true := by
  unfold leP
  rw [Bool.not_eq_true', Bool.not_eq_true', Bool.not_eq_true', ← Bool.not_eq_true, ← Bool.not_eq_true, ← Bool.not_eq_true, ltP_iff, ltP_iff, ltP_iff]
  omega
theorem leP_tot (a b : Ln) : (leP a b || leP b a) = true := by
  unfold leP
  rw [Bool.or_eq_true, Bool.not_eq_true', Bool.not_eq_true', ← Bool.not_eq_true, ← Bool.not_eq_true, ltP_iff, ltP_iff]
  omega
theorem leP_anti {a b : Ln} (h1 : leP a b = true) (h2 : leP b a = true) : a = b := by
  unfold leP at h1 h2
  rw [Bool.not_eq_true', ← Bool.not_eq_true, ltP_iff] at h1 h2
  exact Prod.ext (by omega) (by omega)
/-- what sorted makes of lines is known by their set -/
theorem sortP_eq {ls ms : List Ln} (hp : ls.Perm ms) (hs : ms.Pairwise fun p q => leP p q = true) : sortP ls = ms := by
  unfold sortP
  refine List.Perm.eq_of_pairwise (le := fun p q => leP p q = true) (fun a b _ _ h1 h2 => leP_anti h1 h2) ?_ hs ((List.mergeSort_perm ls leP).trans hp)
  exact List.pairwise_mergeSort leP_tr leP_tot ls
theorem sortP_cut {c : Nat} {ls : List NL} (h : cutN c (isortN ls) = true) : sortP (ls.map toLn) = (isortN ls).map toLn := by
  refine sortP_eq ((isortN_perm ls).map toLn).symm ?_
  unfold cutN at h
  simp only [Bool.and_eq_true] at h
  have hs := sortedN_pw h.2.2.1
  rw [List.pairwise_map]
  exact hs.imp fun h => leP_of (ltP_toLn.mpr h)
def drawnOk (c : Nat) (ls : List NL) : Bool := cutN c (isortN ls)
theorem drawn_all (c : Nat) (h1 : 4 ≤ c) (h2 : c ≤ 9) : chkM (drawnOk c) c (2 * c - 3) [(0, c - 1)] [] = true := by
  rcases (show c = 4 ∨ c = 5 ∨ c = 6 ∨ c = 7 ∨ c = 8 ∨ c = 9 by omega) with rfl | rfl | rfl | rfl | rfl | rfl <;> decide +kernel
theorem drawn_cut {A : Nat → Nat → Nat} {c : Nat} (h1 : 4 ≤ c) (h2 : c ≤ 9) (hA : ∀ i j, 1 < j - i → i < A i j ∧ A i j < j) : IsCut (c : Int) (sortP ((mrun A c (2 * c - 3) [(0, c - 1)] []).map toLn)) := by
  have := chkM_run hA (drawn_all c h1 h2)
  rw [sortP_cut this]
  exact cutN_is h1 h2 this
/-- turns left -/
def muS (st : List NL) : Nat := (st.map fun p => 2 * (p.2 - p.1) - 1).sum
end AT

/-! ## the drawn cut, walked -/
namespace AT
open PySem PySem.Spec PyProof.Rows L2 Evl
section
variable {K : Frag} {σ : St} {H H0 H1 : Hp} {te : TE} {a x m l : Addr} {D : Ends} {tz : TS}
theorem LPH.upd {ss : List Ln} {zs : List V} {o : HO} (h : LPH H m ss) (hm : m ≠ l) (hl : H l = some (.lst zs)) : LPH (upd H l o) m ss := by
  obtain ⟨ms, h1, h2⟩ := h
  refine ⟨ms, by rw [upd_ne hm]; exact h1, paired_mono h2 fun y p z => ?_⟩
  rw [upd_ne]
  · exact z
  · intro e
    subst e
    rw [hl] at z
    cases z
theorem LPH.push {ss : List Ln} {p : Ln} (h : LPH H m ss) : ∃ vs : List V, H m = some (.lst vs) ∧ vs.length = ss.length ∧ ∀ H1 x, Ex H H1 → H1 x = some (.tup [.int p.1, .int p.2]) → LPH (L2.upd H1 m (.lst (vs ++ [.ref x]))) m (ss ++ [p]) := by
  obtain ⟨ms, h1, h2⟩ := h
  refine ⟨_, h1, by rw [List.length_map, h2.length], fun H1 x e hx => ⟨ms ++ [x], by rw [upd_same, List.map_append]; rfl, ?_⟩⟩
  have h3 : Paired (fun x (p : Ln) => H1 x = some (.tup [.int p.1, .int p.2])) (ms ++ [x]) (ss ++ [p]) := paired_append (paired_mono h2 fun _ _ z => e _ _ z) (.cons hx .nil)
  refine paired_mono h3 fun y u hy => ?_
  rw [upd_ne]
  · exact hy
  · intro z
    subst z
    rw [e _ _ h1] at hy
    cases hy
theorem ev_lenLPH {ta : TE} {ls : List Ln} (ha : Ev ta σ H (.ref a)) (h : LPH H a ls) : Ev (tCB (rLenS K) (tCons ta tNil)) σ H (.int (ls.length : Int)) := ev_lenLP ha (h.lp (K := K))
theorem er_LP {ls : List Ln} (h : Ev te σ H (.ref a)) (hL : LP K H a ls) : Er te σ H (fun _ G2 v => ∃ b, v = .ref b ∧ LP K G2 b ls) := fun H1 e Q q => h H1 e Q fun H2 e2 => q _ H2 e2 ⟨a, rfl, hL.mono (e.trans e2)⟩
theorem muS_cons {p : NL} {st : List NL} : muS (p :: st) = 2 * (p.2 - p.1) - 1 + muS st := by simp [muS]
theorem muS_len : ∀ {st : List NL}, (∀ p, p ∈ st → p.1 < p.2) → st.length ≤ muS st
  | [], _ => by simp
  | p :: st, h => by
    have h1 := h p List.mem_cons_self
    have h2 := muS_len (st := st) fun q hq => h q (List.mem_cons_of_mem _ hq)
    rw [muS_cons, List.length_cons]
    omega
end
def sp__law_cut (K : Frag) : Sp := fun vs H Q _ => ∃ (a : Addr) (ns : List Int) (k c : Nat), vs = [.ref a, .int (k : Int), .int (c : Int)] ∧ LI K H a ns ∧ k ≤ 1000 ∧ 4 ≤ c ∧ c ≤ 9 ∧ ∀ ls H' p, Ex H H' → IsCut (c : Int) ls → OLP K H H' p ls → Q (.ref p) H'
/-- the corner drawn between i and j -/
def drawnA (ns : List Int) (k i j : Nat) : Nat := (((i : Int) + 1 + cellV ns (k + i) / (1 + (j : Int)) % ((j : Int) - (i : Int) - 1))).toNat
theorem drawnA_in (ns : List Int) (k i j : Nat) (h : 1 < j - i) : i < drawnA ns k i j ∧ drawnA ns k i j < j ∧ ((drawnA ns k i j : Nat) : Int) = (i : Int) + 1 + cellV ns (k + i) / (1 + (j : Int)) % ((j : Int) - (i : Int) - 1) := by
  unfold drawnA
  have h1 := Int.emod_nonneg (cellV ns (k + i) / (1 + (j : Int))) (b := (j : Int) - (i : Int) - 1) (by omega)
  have h2 := Int.emod_lt_of_pos (cellV ns (k + i) / (1 + (j : Int))) (b := (j : Int) - (i : Int) - 1) (by omega)
  omega
section
variable {P : Program} {w : World} {K : Frag} {mg : Str → Option Value} {base : Heap} {k : Nat}
theorem ok__law_cut (T : Txt K mg) (G__law_cell : FnOk P w K mg base CX0 k T.f__law_cell T.d__law_cell ["script", "k"] (sp__law_cell K)) : FnOk P w K mg base CX0 (k + 1) T.f__law_cut T.d__law_cut ["script", "k", "corners"] (sp__law_cut K) := by
  refine T.F__law_cut.ok sc__law_cut (fun vs H Q E h => ?_) (fun cdv A outer s H vs Q E hr h => ?_)
  · obtain ⟨a, ns, k, c, rfl, _⟩ := h
    rfl
  · obtain ⟨a, ns, k, c, rfl, hL, hk, h4, h9, q⟩ := h
    refine ⟨_, (pss_cons (ps_set (i := 3) sc__law_cut.nd rfl (.inl rfl) (pe_lst pa_nil))
      (pss_cons (ps_set (i := 4) sc__law_cut.nd rfl (.inl rfl) (pe_lst (pa_cons (pe_tup (pa_cons pe_int (pa_cons (pe_op op_sub (pv 2) pe_int) pa_nil))) pa_nil)))
      (pss_cons (ps_while PassesOwn.never (pt_cmpR op_gt (pe_callB (lenK K) rfl T.b_len PySem.boot_len (pa_cons (pv 4) pa_nil)) pe_int (nomark _))
        (pss_cons (ps_asg (bm0K K PySem.F.plainAttrs_list PySem.F.slot_list_pop PySem.F.type_list_pop mt_pop (pv 4)) (pg_tupK K (n := 2) rfl (pgs_cons (pg_name (i := 5) sc__law_cut.nd rfl (.inl rfl)) (pgs_cons (pg_name (i := 6) sc__law_cut.nd rfl (.inl rfl)) pgs_nil))))
      (pss_one (ps_if (pt_cmpR op_gt (pe_op op_sub (pv 6) (pv 5)) pe_int (nomark _))
        (pss_cons (ps_set (i := 7) sc__law_cut.nd rfl (.inl rfl) (pe_op op_add (pe_op op_add (pv 5) pe_int) (pe_op op_modN (pe_op op_fdivN (pe_call G__law_cell hr rfl T.m__law_cell T.F__law_cell.kp T.b__law_cell .nil pass0 (pa_cons (pv 0) (pa_cons (pe_op op_add (pv 1) (pv 5)) pa_nil))) (pe_op op_add pe_int (pv 6))) (pe_op op_sub (pe_op op_sub (pv 6) (pv 5)) pe_int))))
      (pss_cons (ps_set (i := 4) sc__law_cut.nd rfl (.inl rfl) (pe_op op_cat (pv 4) (pe_lst (pa_cons (pe_tup (pa_cons (pv 5) (pa_cons (pv 7) pa_nil))) (pa_cons (pe_tup (pa_cons (pv 7) (pa_cons (pv 6) pa_nil))) pa_nil)))))
      (pss_one (ps_if (pt_cmpR op_lt (pe_op op_sub (pv 6) (pv 5)) (pe_op op_sub (pv 2) pe_int) (nomark _))
        (pss_one (ps_expr (bmK K PySem.F.plainAttrs_list PySem.F.slot_list_append PySem.F.type_list_append mt_append (pv 3) (pa_cons (pe_tup (pa_cons (pv 5) (pa_cons (pv 6) pa_nil))) pa_nil))))
        pss_nil))))
        pss_nil))))
      (pss_one (ps_ret (pe_callB (sortedDK K hr.units) rfl T.b_sorted (by decide +kernel) (pa_cons (pv 3) pa_nil))))))), ?_⟩
    have hA : ∀ i j, 1 < j - i → i < drawnA ns k i j ∧ drawnA ns k i j < j := fun i j h => ⟨(drawnA_in ns k i j h).1, (drawnA_in ns k i j h).2.1⟩
    have hF := drawn_cut h4 h9 hA
    refine q_asgL (xs := []) (el_lst ea_nil (by simp)) fun l H1 hl e1 hl1 => ?_
    refine qr_asg (er_sides1 (p1 := toLn (0, c - 1)) (eu_tup (ea_cons (ev_c (v := .int 0)) (ea_cons (ev_cast (ev_op (ev_var (v := .int (c : Int)) rfl) ev_c (rv_I0 (g := fun i j => .int (i - j)))) (w := .int ((c - 1 : Nat) : Int)) (by congr 1; omega)) ea_nil)) (by show 2 ≤ 100000; decide))) fun v H2 e2 ⟨t, hv, ht0, ht⟩ => ?_
    · subst hv
      have e02 := e1.trans e2
      refine q_while (fun m σ' H' => ∃ st ls t x5 x6 x7, m = muS st ∧ σ' = [some (.ref a), some (.int (k : Int)), some (.int (c : Int)), some (.ref l), some (.ref t), x5, x6, x7] ∧ Ex H H' ∧ H t = none ∧ l ≠ t ∧ LPH H' l (ls.map toLn) ∧ LPH H' t (st.map toLn).reverse ∧ (∀ p, p ∈ st → p.1 < p.2 ∧ p.2 < c) ∧ ls.length + muS st ≤ 20 ∧ mrun (drawnA ns k) c (muS st) st ls = mrun (drawnA ns k) c (2 * c - 3) [(0, c - 1)] []) (2 * c - 3)
        ⟨[(0, c - 1)], [], t, _, _, _, by simp [muS]; omega, rfl, e02, fresh_back e1 ht0, ne_of_none hl1 ht0, ⟨[], e2 _ _ hl1, .nil⟩, ht, by simp; omega, by simp [muS]; omega, by
          have : muS [(0, c - 1)] = 2 * c - 3 := by simp [muS]; omega
          rw [this]⟩ (fun m σ' H' hW => ?_)
      obtain ⟨st, ls, t, x5, x6, x7, rfl, rfl, eH, ht0, hlt, hl', ht', hst, hsum, hrun⟩ := hW
      refine ⟨_, et_test (ev_op (ev_lenLPH (ev_var rfl) ht') ev_c rv_I0), fun hb H3 e3 => ?_, fun hb H3 e3 => ?_⟩
      · rw [decide_eq_true_eq, List.length_reverse, List.length_map] at hb
        cases st with
        | nil => exact absurd hb (by simp)
        | cons p st =>
          have hp := hst p List.mem_cons_self
          have hstl := muS_len fun q hq => (hst q hq).1
          rw [muS_cons] at hstl hsum hrun ⊢
          have hl3 := hl'.mono e3
          obtain ⟨ms, hm1, hm2⟩ := ht'.mono e3
          rw [List.map_cons, List.reverse_cons] at hm2
          obtain ⟨ms', y, rfl⟩ : ∃ ms' y, ms = ms' ++ [y] := by
            have hlen := hm2.length
            rw [List.length_append] at hlen
            exact ⟨ms.dropLast, ms.getLast (fun z => by subst z; simp at hlen), (List.dropLast_concat_getLast _).symm⟩
          have hsp : Paired (fun x (p : Ln) => H3 x = some (.tup [.int p.1, .int p.2])) ms' (st.map toLn).reverse ∧ H3 y = some (.tup [.int (toLn p).1, .int (toLn p).2]) := by
            have hd := paired_dropLast hm2
            rw [List.dropLast_concat, List.dropLast_concat] at hd
            obtain ⟨z, hz1, hz2⟩ := paired_getL hm2 (i := ms'.length) (x := y) (by simp)
            have hlen := hd.length
            rw [hlen, List.getElem?_append_right (by omega), Nat.sub_self] at hz1
            cases hz1
            exact ⟨hd, hz2⟩
          have e0 : muS st + 1 ≤ 2 * (p.2 - p.1) - 1 + muS st := by omega
          refine ⟨fun σ2 H2 => ∃ m', m' < 2 * (p.2 - p.1) - 1 + muS st ∧ ∃ st ls t x5 x6 x7, m' = muS st ∧ σ2 = [some (.ref a), some (.int (k : Int)), some (.int (c : Int)), some (.ref l), some (.ref t), x5, x6, x7] ∧ Ex H H2 ∧ H t = none ∧ l ≠ t ∧ LPH H2 l (ls.map toLn) ∧ LPH H2 t (st.map toLn).reverse ∧ (∀ p, p ∈ st → p.1 < p.2 ∧ p.2 < c) ∧ ls.length + muS st ≤ 20 ∧ mrun (drawnA ns k) c (muS st) st ls = mrun (drawnA ns k) c (2 * c - 3) [(0, c - 1)] [], fun _ _ h => h, ?_⟩
          -- one, other = todo.pop()
          have hpop : ∀ (Q' : VK), (∀ H4, H4 = upd H3 t (.lst (ms'.map V.ref)) → Q' (.ref y) H4) → tBM0 K "list" rPop (tVar 4) [some (.ref a), some (.int (k : Int)), some (.int (c : Int)), some (.ref l), some (.ref t), x5, x6, x7] H3 Q' := fun Q' q' => by
            refine ⟨.ref t, rfl, .inl ⟨rfl, _, sq_of hm1⟩, t, _, .ref y, rfl, rfl, hm1, ?_, q' _ ?_⟩
            · rw [List.map_append, List.length_append, List.length_map]
              show (ms'.map V.ref ++ [V.ref y])[ms'.length + 1 - 1]? = _
              rw [Nat.add_sub_cancel, List.getElem?_append_right (by simp)]
              simp
            · rw [List.map_append]
              show upd H3 t (.lst (ms'.map V.ref ++ [V.ref y]).dropLast) = _
              rw [List.dropLast_concat]
          refine hpop _ fun H4 hH4 => ?_
          have eH3 := eH.trans e3
          have eH4 : Ex H H4 := hH4 ▸ Ex.mut eH3 ht0
          have hl4 : LPH H4 l (ls.map toLn) := hH4 ▸ hl3.upd hlt hm1
          have hyt : y ≠ t := fun z => by
            have := hsp.2
            rw [z, hm1] at this
            cases this
          have hy4 : H4 y = some (.tup [.int (toLn p).1, .int (toLn p).2]) := by rw [hH4, upd_ne hyt]; exact hsp.2
          have ht4 : LPH H4 t (st.map toLn).reverse := by
            refine ⟨ms', by rw [hH4, upd_same], paired_mono hsp.1 fun z u hz => ?_⟩
            rw [hH4, upd_ne]
            · exact hz
            · intro e
              rw [e, hm1] at hz
              cases hz
          clear hpop hH4
          refine ⟨y, _, rfl, st_of hy4, rfl, _, _, rfl, _, _, rfl, rfl, ?_⟩
          have htl : (toLn p).1 = (p.1 : Int) := rfl
          have htl2 : (toLn p).2 = (p.2 : Int) := rfl
          rw [htl, htl2]
          refine s_when (et_test (ev_op (ev_op (ev_var (v := .int (p.2 : Int)) rfl) (ev_var (v := .int (p.1 : Int)) rfl) (rv_I0 (g := fun i j => .int (i - j)))) ev_c rv_I0)) (fun hb2 H5 e5 => ?_) (fun hb2 H5 e5 => ?_)
          · rw [decide_eq_true_eq] at hb2
            have hb2 : 1 < p.2 - p.1 := by omega
            obtain ⟨d1, d2, d3⟩ := drawnA_in ns k p.1 p.2 hb2
            have hL5 := hL.mono (eH4.trans e5)
            have hev : Ev (tOp (rI0 fun i j => .int (i + j)) (tOp (rI0 fun i j => .int (i + j)) (tVar 5) (tC (.int 1))) (tOp (rI (fun _ j => j ≠ 0) fun i j => .int (i.fmod j)) (tOp (rI CDivN fun i j => .int (i.fdiv j)) (tCall (sp__law_cell K) [] E0 (tCons (tVar 0) (tCons (tOp (rI0 fun i j => .int (i + j)) (tVar 1) (tVar 5)) tNil))) (tOp (rI0 fun i j => .int (i + j)) (tC (.int 1)) (tVar 6))) (tOp (rI0 fun i j => .int (i - j)) (tOp (rI0 fun i j => .int (i - j)) (tVar 6) (tVar 5)) (tC (.int 1)))))
                [some (.ref a), some (.int (k : Int)), some (.int (c : Int)), some (.ref l), some (.ref t), some (.int (p.1 : Int)), some (.int (p.2 : Int)), x7] H5 (.int ((drawnA ns k p.1 p.2 : Nat) : Int)) := by
              rw [d3]
              have hki : ((k : Int) + (p.1 : Int)) = ((k + p.1 : Nat) : Int) := by omega
              refine ev_op (ev_op (ev_var rfl) ev_c rv_I0) (ev_mod (ev_div (ev_cv (j := k + p.1) hL5 (ea_cons (ev_var rfl) (ea_cons (ev_cast (ev_op (ev_var (v := .int (k : Int)) rfl) (ev_var (v := .int (p.1 : Int)) rfl) (rv_I0 (g := fun i j => .int (i + j)))) (by rw [hki])) ea_nil)) (by omega)) (ev_op ev_c (ev_var rfl) rv_I0) (by omega) (by omega)) (ev_op (ev_op (ev_var rfl) (ev_var rfl) rv_I0) ev_c rv_I0) (by omega)) rv_I0
            refine q_asg hev fun H6 e6 => ?_
            generalize hm : drawnA ns k p.1 p.2 = m at *
            have hl6 := (hl4.mono e5).mono e6
            have hst6 : ((st.map toLn).reverse).length ≤ 100 := by
              rw [List.length_reverse, List.length_map]
              rw [List.length_cons] at hstl
              omega
            refine qr_asg (er_catP (t := t) (ss := (st.map toLn).reverse) (ev_var rfl) ((ht4.mono e5).mono e6) (er_sides2 (p1 := toLn (p.1, m)) (p2 := toLn (m, p.2)) (eu_tup (ea_cons (ev_var rfl) (ea_cons (ev_var rfl) ea_nil)) (by show 2 ≤ 100000; decide)) (eu_tup (ea_cons (ev_var rfl) (ea_cons (ev_var rfl) ea_nil)) (by show 2 ≤ 100000; decide))) (by show _ + 2 ≤ 10000; omega)) fun v H7 e7 ⟨t', hv, ht'0, ht'7⟩ => ?_
            have e1' : (((m, p.2) :: (p.1, m) :: st).map toLn).reverse = (st.map toLn).reverse ++ [toLn (p.1, m), toLn (m, p.2)] := by simp
            rw [← e1'] at ht'7
            · subst hv
              have e57 := (e5.trans e6).trans e7
              have eH7 := eH4.trans e57
              have hl7 := hl6.mono e7
              have hmu : muS ((m, p.2) :: (p.1, m) :: st) = 2 * (p.2 - p.1) - 2 + muS st := by
                rw [muS_cons, muS_cons]
                dsimp only
                omega
              have hstn : ∀ q, q ∈ (m, p.2) :: (p.1, m) :: st → q.1 < q.2 ∧ q.2 < c := fun q hq => by
                rcases List.mem_cons.mp hq with rfl | hq
                · exact ⟨d2, hp.2⟩
                · rcases List.mem_cons.mp hq with rfl | hq
                  · exact ⟨d1, by dsimp only; omega⟩
                  · exact hst q (List.mem_cons_of_mem _ hq)
              have hrn : mrun (drawnA ns k) c (muS ((m, p.2) :: (p.1, m) :: st)) ((m, p.2) :: (p.1, m) :: st) (if p.2 - p.1 < c - 1 then ls ++ [p] else ls) = mrun (drawnA ns k) c (2 * c - 3) [(0, c - 1)] [] := by
                rw [← hrun, hmu]
                have : 2 * (p.2 - p.1) - 1 + muS st = (2 * (p.2 - p.1) - 2 + muS st) + 1 := by omega
                rw [this]
                show _ = (if 1 < p.2 - p.1 then _ else _)
                rw [if_pos hb2, hm]
              have hlt' : l ≠ t' := by
                obtain ⟨ms7, h7, _⟩ := hl6
                exact ne_of_none h7 ht'0
              have ht'H : H t' = none := fresh_back ((eH4.trans e5).trans e6) ht'0
              refine s_when (et_test (ev_op (ev_op (ev_var (v := .int (p.2 : Int)) rfl) (ev_var (v := .int (p.1 : Int)) rfl) (rv_I0 (g := fun i j => .int (i - j)))) (ev_op (ev_var (v := .int (c : Int)) rfl) ev_c (rv_I0 (g := fun i j => .int (i - j)))) rv_I0)) (fun hb3 H8 e8 => ?_) (fun hb3 H8 e8 => ?_)
              · rw [decide_eq_true_eq] at hb3
                rw [if_pos (by omega)] at hrn
                obtain ⟨vs, hv1, hv2, hv3⟩ := (hl7.mono e8).push (p := toLn p)
                refine s_appU hv1 (ev_var rfl) (eu_tup (ea_cons (ev_var (v := .int (p.1 : Int)) rfl) (ea_cons (ev_var (v := .int (p.2 : Int)) rfl) ea_nil)) (by show 2 ≤ 100000; decide)) (by rw [hv2, List.length_map]; omega) fun y9 H9 hy9 e9 hy9' => ?_
                refine ⟨_, by rw [hmu]; omega, _, _, t', _, _, _, rfl, rfl, Ex.mut ((eH7.trans e8).trans e9) hl, ht'H, hlt', ?_, ((ht'7.mono e8).mono e9).upd hlt'.symm (e9 _ _ hv1), hstn, ?_, hrn⟩
                · rw [List.map_append]
                  exact hv3 H9 y9 e9 hy9'
                · rw [hmu, List.length_append]
                  show _ + 1 + _ ≤ 20
                  omega
              · rw [decide_eq_false_iff_not] at hb3
                rw [if_neg (by omega)] at hrn
                refine ⟨_, by rw [hmu]; omega, _, _, t', _, _, _, rfl, rfl, eH7.trans e8, ht'H, hlt', hl7.mono e8, ht'7.mono e8, hstn, ?_, hrn⟩
                rw [hmu]
                omega
          · rw [decide_eq_false_iff_not] at hb2
            refine ⟨muS st, by omega, st, ls, t, _, _, _, rfl, rfl, eH4.trans e5, ht0, hlt, hl4.mono e5, ht4.mono e5, fun q hq => hst q (List.mem_cons_of_mem _ hq), by omega, ?_⟩
            rw [← hrun]
            have : 2 * (p.2 - p.1) - 1 + muS st = muS st + 1 := by omega
            rw [this]
            show _ = (if 1 < p.2 - p.1 then _ else _)
            rw [if_neg (by omega)]
      · rw [decide_eq_false_iff_not, List.length_reverse, List.length_map] at hb
        have : st = [] := List.length_eq_zero_iff.mp (by omega)
        subst this
        have hrun : ls = mrun (drawnA ns k) c (2 * c - 3) [(0, c - 1)] [] := hrun
        rw [← hrun] at hF
        have hl3 := hl'.mono e3
        refine sr_ret (er_sortedP (ls := ls.map toLn) (er_LP (ev_var (v := .ref l) rfl) hl3.lp) (fun G1 G2 v hv => hv) ?_) fun v H5 e5 ⟨p, hv, hO⟩ => ?_
        · rw [List.length_map]
          have : muS ([] : List NL) = 0 := rfl
          omega
        · subst hv
          exact q _ H5 p ((eH.trans e3).trans e5) hF (hO.back (eH.trans e3))
end
end AT

/-! ## a cut spoilt in one way -/
namespace AT
open PySem PySem.Spec PyProof.Rows L2 Evl
section
variable {K : Frag} {σ : St} {H H0 H1 : Hp} {te ta tb ti : TE} {a x l : Addr} {D : Ends} {tz : TS} {p : Ln} {ls : List Ln}
theorem PT.upd {zs : List V} {o : HO} (h : PT K H x p) (hl : H l = some (.lst zs)) : PT K (upd H l o) x p := by
  rcases h with (h | ⟨o', h⟩) | h
  · exact .inl (.inl (by rw [upd_ne (ne_of h hl (by simp))]; exact h))
  · exact .inl (.inr ⟨o', by rw [upd_ne (ne_of h hl (by simp))]; exact h⟩)
  · exact .inr h
theorem OLP.chg {as' : List Addr} {ls' : List Ln} {zs : List V} (h : OLP K H0 H a ls) (hp : Paired (fun x p => PT K H1 x p) as' ls') (h1 : H1 a = some (.lst zs)) : OLP K H0 (L2.upd H1 a (.lst (as'.map V.ref))) a ls' := ⟨h.1, as', upd_same, paired_mono hp fun _ _ z => z.upd h1⟩
theorem OLP.refs (h : OLP K H0 H a ls) : ∃ as : List Addr, H a = some (.lst (as.map V.ref)) ∧ Paired (fun x p => PT K H x p) as ls := h.2
theorem paired_rev {α β : Type} {F : α → β → Prop} : ∀ {l₁ : List α} {l₂ : List β}, Paired F l₁ l₂ → Paired F l₁.reverse l₂.reverse
  | _, _, .nil => .nil
  | _, _, .cons r t => by rw [List.reverse_cons, List.reverse_cons]; exact paired_append (paired_rev t) (.cons r .nil)
theorem paired_take {α β : Type} {F : α → β → Prop} : ∀ {l₁ : List α} {l₂ : List β} (n : Nat), Paired F l₁ l₂ → Paired F (l₁.take n) (l₂.take n)
  | _, _, 0, _ => .nil
  | _, _, _ + 1, .nil => .nil
  | _, _, n + 1, .cons r t => .cons r (paired_take n t)
def rIns : V → List V → Hp → VK → Prop := fun x vs H Q => ∃ (l : Addr) (xs : List V) (i : Int) (y : V), x = .ref l ∧ vs = [.int i, y] ∧ H l = some (.lst xs) ∧ xs.length < sizeLine ∧ 0 ≤ i ∧ i < 2 ^ 63 ∧ Q .non (upd H l (.lst (xs.take i.toNat ++ [y] ++ xs.drop i.toNat)))
theorem s_insert {l : Addr} {vs : List V} {i : Nat} {y : V} (hl : H l = some (.lst vs)) (ha : Ev ta σ H (.ref l)) (hi : Ev tb σ H (.int (i : Int))) (hy : Ev te σ H y) (hin : i ≤ 100000) (hs : vs.length ≤ 10000) (k : ∀ H1, Ex H H1 → D.nx σ (upd H1 l (.lst (vs.take i ++ [y] ++ vs.drop i)))) : tDrop (tBM K "list" rIns ta (tCons tb (tCons te tNil))) D σ H :=
  ha H (Ex.refl H) _ fun H1 e1 => ⟨.inl ⟨rfl, vs, sq_of (e1 _ _ hl)⟩, hi H1 e1 _ fun H2 e2 => hy H2 (e1.trans e2) _ fun H3 e3 => ⟨l, vs, (i : Int), y, rfl, rfl, ((e1.trans e2).trans e3) _ _ hl, Nat.lt_of_le_of_lt hs (by decide), by omega, by omega, by
    rw [Int.toNat_natCast]
    exact k H3 ((e1.trans e2).trans e3)⟩⟩
theorem s_rev {l : Addr} {vs : List V} (hl : H l = some (.lst vs)) (ha : Ev ta σ H (.ref l)) (k : ∀ H1, Ex H H1 → D.nx σ (upd H1 l (.lst vs.reverse))) : tDrop (tBM0 K "list" rReverse ta) D σ H :=
  ha H (Ex.refl H) _ fun H1 e1 => ⟨.inl ⟨rfl, vs, sq_of (e1 _ _ hl)⟩, l, vs, rfl, rfl, e1 _ _ hl, k H1 e1⟩
/-- l[j] = a new tuple -/
theorem s_setLU {l : Addr} {xs ys : List V} {j : Nat} (hl : H l = some (.lst xs)) (h : EvU te σ H ys) (ho : Ev ta σ H (.ref l)) (hi : Ev tb σ H (.int (j : Int))) (hj : j < xs.length) (k : ∀ p H1, H p = none → Ex H H1 → H1 p = some (.tup ys) → D.nx σ (upd H1 l (.lst (xs.set j (.ref p))))) :
    tAsg te (gSub ta tb rSetL) D σ H := h H (Ex.refl H) _ fun p H1 hp e1 hp1 => ho H1 e1 _ fun H2 e2 => hi H2 (e1.trans e2) _ fun H3 e3 => ⟨l, xs, (j : Int), j, rfl, rfl, ((e1.trans e2).trans e3) _ _ hl, ixN_nat hj, k p H3 hp ((e1.trans e2).trans e3) ((e2.trans e3) _ _ hp1)⟩
end
def sp__law_hurt (K : Frag) : Sp := fun vs H Q _ => ∃ (a : Addr) (ls : List Ln) (mode cell number : Int), vs = [.ref a, .int mode, .int cell, .int number] ∧ LP K H a ls ∧ 1 ≤ ls.length ∧ ls.length ≤ 6 ∧ 1 ≤ mode ∧ mode ≤ 7 ∧ ∀ ls' H' p, Ex H H' → ls'.length ≤ 10 → OLP K H H' p ls' → Q (.ref p) H'
section
variable {P : Program} {w : World} {K : Frag} {mg : Str → Option Value} {base : Heap} {k : Nat}
theorem ok__law_hurt (T : Txt K mg) : FnOk P w K mg base CX0 (k + 1) T.f__law_hurt T.d__law_hurt ["lines", "mode", "cell", "number"] (sp__law_hurt K) := by
  refine T.F__law_hurt.ok sc__law_hurt (fun vs H Q E h => ?_) (fun cdv A outer s H vs Q E hr h => ?_)
  · obtain ⟨a, ls, mode, cell, number, rfl, _⟩ := h
    rfl
  · obtain ⟨a, ls, mode, cell, number, rfl, hL, hl1, hl6, hm1, hm7, q⟩ := h
    refine ⟨_, (pss_cons (ps_set (i := 4) sc__law_hurt.nd rfl (.inl rfl) (pe_callTy (listK K) rfl T.b_list (by decide +kernel) (pa_cons (pv 0) pa_nil)))
      (pss_cons (ps_set (i := 5) sc__law_hurt.nd rfl (.inl rfl) (pe_op op_modN (pv 2) (pe_callB (lenK K) rfl T.b_len PySem.boot_len (pa_cons (pv 0) pa_nil))))
      (pss_cons (ps_set (i := 6) sc__law_hurt.nd rfl (.inl rfl) (pe_tup (pa_cons (pe_op op_sub (pe_op op_modN (pe_op op_fdivN (pv 2) pe_int) pe_int) pe_int) (pa_cons (pe_op op_sub (pe_op op_modN (pv 3) pe_int) pe_int) pa_nil))))
      (pss_cons (ps_if (pt_cmpR op_eq (pv 1) pe_int (nomark _))
        (pss_one (ps_expr (bmK K PySem.F.plainAttrs_list PySem.F.slot_list_pop PySem.F.type_list_pop mt_popAt (pv 4) (pa_cons (pv 5) pa_nil))))
        pss_nil)
      (pss_cons (ps_if (pt_cmpR op_eq (pv 1) pe_int (nomark _))
        (pss_one (ps_expr (bmK K PySem.F.plainAttrs_list PySem.F.slot_list_insert PySem.F.type_list_insert mt_insert (pv 4) (pa_cons (pv 5) (pa_cons (pv 6) pa_nil)))))
        pss_nil)
      (pss_cons (ps_if (pt_cmpR op_eq (pv 1) pe_int (nomark _))
        (pss_one (ps_asg (pe_ix (ixL K) (pv 4) (pe_op op_modN (pv 3) (pe_callB (lenK K) rfl T.b_len PySem.boot_len (pa_cons (pv 0) pa_nil))) (fun _ _ => rfl)) (pg_sub (pv 4) (pv 5) set_list)))
        pss_nil)
      (pss_cons (ps_if (pt_cmpR op_eq (pv 1) pe_int (nomark _))
        (pss_one (ps_asg (pv 6) (pg_sub (pv 4) (pv 5) set_list)))
        pss_nil)
      (pss_cons (ps_if (pt_cmpR op_eq (pv 1) pe_int (nomark _))
        (pss_one (ps_asg (pe_tup (pa_cons (pe_ix (ixT K) (pe_ix (ixL K) (pv 4) (pv 5) (fun _ _ => rfl)) pe_int (fun _ _ => rfl)) (pa_cons (pe_ix (ixT K) (pe_ix (ixL K) (pv 4) (pv 5) (fun _ _ => rfl)) pe_int (fun _ _ => rfl)) pa_nil))) (pg_sub (pv 4) (pv 5) set_list)))
        pss_nil)
      (pss_cons (ps_if (pt_cmpR op_eq (pv 1) pe_int (nomark _))
        (pss_one (ps_expr (bm0K K PySem.F.plainAttrs_list PySem.F.slot_list_reverse PySem.F.type_list_reverse mt_reverse (pv 4))))
        pss_nil)
      (pss_one (ps_ret (pv 4)))))))))))), ?_⟩
    obtain ⟨as, hA, hP⟩ := id hL
    have hlen := hP.length
    refine q_asgL (el_list (ev_var rfl) hA) fun f H1 hf e1 hf1 => ?_
    obtain ⟨i, hi, hil⟩ : ∃ i : Nat, cell % (ls.length : Int) = (i : Int) ∧ i < ls.length := ⟨(cell % (ls.length : Int)).toNat, by
      have h1 := Int.emod_nonneg cell (b := (ls.length : Int)) (by omega)
      have h2 := Int.emod_lt_of_pos cell (b := (ls.length : Int)) (by omega)
      omega⟩
    refine q_asg (ev_cast (ev_mod (ev_var (v := .int cell) rfl) (ev_lenLP (ev_var (v := .ref a) rfl) (hL.mono e1)) (by omega)) (w := .int (i : Int)) (by rw [hi])) fun H2 e2 => ?_
    refine q_asgU (eu_tup (ea_cons (ev_op (ev_mod (ev_div (ev_var (v := .int cell) rfl) ev_c (by decide) (by decide)) ev_c (by decide)) ev_c rv_I0) (ea_cons (ev_op (ev_mod (ev_var (v := .int number) rfl) ev_c (by decide)) ev_c rv_I0) ea_nil)) (by show 2 ≤ 100000; decide)) fun x H3 hx e3 hx3 => ?_
    have e13 := e2.trans e3
    have e03 := e1.trans e13
    have hO : OLP K H H3 f ls := ⟨hf, as, e13 _ _ hf1, paired_mono hP fun _ _ z => z.mono e03⟩
    generalize hpr : ((cell / 16 % 11 - 1, number % 11 - 1) : Ln) = pr
    have hxp : PT K H3 x pr := by
      rw [← hpr]
      exact st_of hx3
    have hf3 := e13 _ _ hf1
    have hP3 : Paired (fun x p => PT K H3 x p) as ls := paired_mono hP fun _ _ z => z.mono e03
    have fin : ∀ {x1 : Option V} {H' : Hp} {ls' : List Ln}, Ex H H' → OLP K H H' f ls' → ls'.length ≤ 10 → tRet (tVar 4) { nx := fun _ H' => Q .non H', rt := Q } [some (.ref a), some (.int mode), some (.int cell), some (.int number), some (.ref f), some (.int (i : Int)), some (.ref x)] H' := fun {x1 H' ls'} eH hO hl => s_ret (ev_var rfl) fun H5 e5 => q ls' H5 f (eH.trans e5) hl (hO.mono e5)
    have hfr : H f = none := hf
    have eU : ∀ {H5 : Hp} {o : HO}, Ex H3 H5 → Ex H (upd H5 f o) := fun e => Ex.mut (e03.trans e) hfr
    rcases (show mode = 1 ∨ mode = 2 ∨ mode = 3 ∨ mode = 4 ∨ mode = 5 ∨ mode = 6 ∨ mode = 7 by omega) with rfl | rfl | rfl | rfl | rfl | rfl | rfl
    · refine q_take rfl rfl (s_popAt hf3 (ev_var rfl) (ev_var rfl) (by rw [List.length_map, hlen]; exact hil) (by rw [List.length_map, hlen]; omega) fun H5 e5 => ?_)
      refine q_skip rfl (by decide) (q_skip rfl (by decide) (q_skip rfl (by decide) (q_skip rfl (by decide) (q_skip rfl (by decide) ?_))))
      rw [map_erase]
      exact fin (x1 := none) (eU e5) (hO.chg (paired_eraseIdx i (paired_mono hP3 fun _ _ z => z.mono e5)) (e5 _ _ hf3)) (by rw [List.length_eraseIdx]; split <;> omega)
    · refine q_skip rfl (by decide) (q_take rfl rfl (s_insert hf3 (ev_var rfl) (ev_var rfl) (ev_var rfl) (by omega) (by rw [List.length_map, hlen]; omega) fun H5 e5 => ?_))
      refine q_skip rfl (by decide) (q_skip rfl (by decide) (q_skip rfl (by decide) (q_skip rfl (by decide) ?_)))
      have hP5 : Paired (fun x p => PT K H5 x p) as ls := paired_mono hP3 fun _ _ z => z.mono e5
      have := hO.chg (as' := as.take i ++ [x] ++ as.drop i) (ls' := ls.take i ++ [pr] ++ ls.drop i) (paired_append (paired_append (paired_take i hP5) (.cons (hxp.mono e5) .nil)) (paired_drop i hP5)) (e5 _ _ hf3)
      rw [List.map_append, List.map_append, List.map_take, List.map_drop] at this
      exact fin (x1 := none) (eU e5) this (by simp; omega)
    · refine q_skip rfl (by decide) (q_skip rfl (by decide) (q_take rfl rfl ?_))
      obtain ⟨j, hj, hjl⟩ : ∃ j : Nat, number % (ls.length : Int) = (j : Int) ∧ j < ls.length := ⟨(number % (ls.length : Int)).toNat, by
        have h1 := Int.emod_nonneg number (b := (ls.length : Int)) (by omega)
        have h2 := Int.emod_lt_of_pos number (b := (ls.length : Int)) (by omega)
        omega⟩
      obtain ⟨y, hy, hyp⟩ : ∃ y, as[j]? = some y ∧ PT K H3 y ls[j] := paired_get hP3 (List.getElem?_eq_getElem hjl)
      refine s_setL (j := i) (v := .ref y) hf3 (ev_op (ev_var (v := .ref f) rfl) (ev_cast (ev_mod (ev_var (v := .int number) rfl) (ev_lenLP (ev_var (v := .ref a) rfl) (hL.mono e03)) (by omega)) (w := .int (j : Int)) (by rw [hj])) (rv_ixL (sq_of hf3) (atI_n (by rw [List.getElem?_map, hy]; rfl)))) (ev_var rfl) (ev_var rfl) (by rw [List.length_map, hlen]; exact hil) fun H5 e5 => ?_
      refine q_skip rfl (by decide) (q_skip rfl (by decide) (q_skip rfl (by decide) ?_))
      have hP5 : Paired (fun x p => PT K H5 x p) as ls := paired_mono hP3 fun _ _ z => z.mono e5
      have := hO.chg (paired_set (hyp.mono e5) i hP5) (e5 _ _ hf3)
      rw [List.map_set] at this
      exact fin (x1 := none) (eU e5) this (by rw [List.length_set]; omega)
    · refine q_skip rfl (by decide) (q_skip rfl (by decide) (q_skip rfl (by decide) (q_take rfl rfl (s_setL (j := i) (v := .ref x) hf3 (ev_var rfl) (ev_var rfl) (ev_var rfl) (by rw [List.length_map, hlen]; exact hil) fun H5 e5 => ?_))))
      refine q_skip rfl (by decide) (q_skip rfl (by decide) ?_)
      have hP5 : Paired (fun x p => PT K H5 x p) as ls := paired_mono hP3 fun _ _ z => z.mono e5
      have := hO.chg (paired_set (hxp.mono e5) i hP5) (e5 _ _ hf3)
      rw [List.map_set] at this
      exact fin (x1 := none) (eU e5) this (by rw [List.length_set]; omega)
    · refine q_skip rfl (by decide) (q_skip rfl (by decide) (q_skip rfl (by decide) (q_skip rfl (by decide) (q_take rfl rfl ?_))))
      obtain ⟨y, hy, hyp⟩ : ∃ y, as[i]? = some y ∧ PT K H3 y ls[i] := paired_get hP3 (List.getElem?_eq_getElem hil)
      have hix : RV (rIxL K) (.ref f) (.int (i : Int)) H3 (.ref y) := rv_ixL (sq_of hf3) (atI_n (by rw [List.getElem?_map, hy]; rfl))
      refine s_setLU (j := i) hf3 (eu_tup (ea_cons (ev_p2 (ev_op (ev_var (v := .ref f) rfl) (ev_var (v := .int (i : Int)) rfl) hix) ev_c hyp) (ea_cons (ev_p1 (ev_op (ev_var (v := .ref f) rfl) (ev_var (v := .int (i : Int)) rfl) hix) ev_c hyp) ea_nil)) (by show 2 ≤ 100000; decide)) (ev_var rfl) (ev_var rfl) (by rw [List.length_map, hlen]; exact hil) fun z H5 hz e5 hz5 => ?_
      refine q_skip rfl (by decide) ?_
      have hP5 : Paired (fun x p => PT K H5 x p) as ls := paired_mono hP3 fun _ _ z => z.mono e5
      have hzp : PT K H5 z ((ls[i].2, ls[i].1) : Ln) := st_of hz5
      have := hO.chg (paired_set hzp i hP5) (e5 _ _ hf3)
      rw [List.map_set] at this
      exact fin (x1 := none) (eU e5) this (by rw [List.length_set]; omega)
    · refine q_skip rfl (by decide) (q_skip rfl (by decide) (q_skip rfl (by decide) (q_skip rfl (by decide) (q_skip rfl (by decide) (q_take rfl rfl (s_rev hf3 (ev_var rfl) fun H5 e5 => ?_))))))
      have hP5 : Paired (fun x p => PT K H5 x p) as ls := paired_mono hP3 fun _ _ z => z.mono e5
      have := hO.chg (paired_rev hP5) (e5 _ _ hf3)
      rw [List.map_reverse] at this
      exact fin (x1 := none) (eU e5) this (by rw [List.length_reverse]; omega)
    · refine q_skip rfl (by decide) (q_skip rfl (by decide) (q_skip rfl (by decide) (q_skip rfl (by decide) (q_skip rfl (by decide) (q_skip rfl (by decide) ?_)))))
      exact fin (x1 := none) e03 hO (by omega)
end
end AT

/-! ## if .. else .. on a known number -/
namespace AT
open PySem PySem.Spec PyProof.Rows L2 Evl
section
variable {D : Ends} {σ : St} {H : Hp} {tu tv : TS}
theorem i_skip {i : Nat} {m k : Int} (h : σ[i]? = some (some (.int m))) (hm : m ≠ k) (q : tv D σ H) : tIfS (tTest (tOp rEq (tVar i) (tC (.int k)))) tu tv D σ H :=
  ⟨.int m, h, rfl, _, rfl, by
    have : ¬ (V.int m = V.int k) := fun e => hm (by injection e)
    show (if decide (V.int m = V.int k) = true then _ else _)
    rw [if_neg (by simp [this])]
    exact q⟩
theorem i_take {i : Nat} {m k : Int} (h : σ[i]? = some (some (.int m))) (hm : m = k) (q : tu D σ H) : tIfS (tTest (tOp rEq (tVar i) (tC (.int k)))) tu tv D σ H :=
  ⟨.int m, h, rfl, _, rfl, by
    subst hm
    show (if decide (V.int m = V.int m) = true then _ else _)
    rw [if_pos (by simp)]
    exact q⟩
end
end AT

/-! ## what is refused of cuts -/
namespace AT
open PySem PySem.Spec PyProof.Rows L2 Evl L2H
def sp__law_met13 (K : Frag) : Sp := fun vs H Q _ => ∃ (how : Nat) (c : Int) (a x : Addr) (ls : List Ln) (u : Ln) (wh : Nat), vs = [.int (how : Int), .int c, .ref a, .ref x] ∧ LP K H a ls ∧ ls.length ≤ 100 ∧ PT K H x u ∧
  (((how = 0 ∨ how = 1) ∧ ¬ IsCut c ls ∧ wh = 3) ∨ (how = 1 ∧ IsCut c ls ∧ u ∉ ls ∧ wh = 1)) ∧ ∀ H' p, Ex H H' → H' p = some (.tup [.int (wh : Int), .non]) → Q (.ref p) H'
section
variable {P : Program} {w : World} {K : Frag} {mg : Str → Option Value} {base : Heap} {k : Nat}
theorem ok__law_met13 (T : Txt K mg) (G_form_of : FnOk P w K mg base (L2.CX P w) k T.f_form_of T.d_form_of ["corners", "lines"] (sp_form_of K T.c_NoCut)) (G_cut_turned : FnOk P w K mg base (L2.CX P w) k T.f_cut_turned T.d_cut_turned ["corners", "lines", "line"] (sp_cut_turned K T.c_NoCut T.c_NoBox))
    (G__law_which : FnE P w K mg base k T.f__law_which T.d__law_which ["e"] (sp__law_which T)) : FnOk P w K mg base CX0 (k + 1) T.f__law_met T.d__law_met ["how", "corners", "lines", "line"] (sp__law_met13 K) := by
  refine T.F__law_met.ok sc__law_met (fun vs H Q E h => ?_) (fun cdv A outer s H vs Q E hr h => ?_)
  · obtain ⟨how, c, a, x, ls, u, wh, rfl, _⟩ := h
    rfl
  · obtain ⟨how, c, a, x, ls, u, wh, rfl, hL, hl, hx, hcase, q⟩ := h
    refine ⟨_, (pss_cons (ps_set (i := 4) sc__law_met.nd rfl (.inl rfl) (pe_un un_neg pe_int))
      (pss_cons (ps_set (i := 5) sc__law_met.nd rfl (.inl rfl) pe_non)
      (pss_cons (ps_try_as (i := 6) (Wout := fun _ _ _ _ => False) rfl rfl sc__law_met.nd rfl rfl ⟨rfl, by decide, .inl T.g_TurnError⟩ takes0
        (fun W pn xe tk _ => by exact (pss_one (ps_if (pt_cmpR op_eq (pv 0) pe_int (nomark _))
        (pss_one (ps_set (i := 5) sc__law_met.nd rfl (.inl rfl) (by exact (pe_callS G_form_of hr rfl T.m_form_of T.F_form_of.kp T.b_form_of (fun σ => passAt tk σ) (by exact (pa_cons (pv 1) (pa_cons (pv 2) pa_nil)))))))
        (pss_one (ps_set (i := 5) sc__law_met.nd rfl (.inl rfl) (by exact (pe_callS G_cut_turned hr rfl T.m_cut_turned T.F_cut_turned.kp T.b_cut_turned (fun σ => passAt tk σ) (by exact (pa_cons (pv 1) (pa_cons (pv 2) (pa_cons (pv 3) pa_nil)))))))))))
        (fun a oe cls d pn hz hf => by exact (pss_one (ps_set (i := 4) sc__law_met.nd rfl (.inl rfl) (by exact (pe_callE (oe := oe) hz hf G__law_which ⟨hr.dp, hr.un⟩ List.mem_cons_self rfl T.m__law_which T.F__law_which.kp T.b__law_which (by exact (pa_cons (pv 6) pa_nil))))))))
      (pss_one (ps_ret (pe_tup (pa_cons (pv 4) (pa_cons (pv 5) pa_nil)))))))), ?_⟩
    refine q_asg (ev_un ev_c ru_neg) fun H1 e1 => q_asg ev_c fun H2 e2 => ?_
    have e02 := e1.trans e2
    have hL2 := hL.mono e02
    have hx2 := hx.mono e02
    have hsu : ∀ (D : Addr) (i : Nat), (five T)[i]? = some D → PySem.W.exmOne K (.ref D) (.ref T.c_TurnError) = some true → i = wh → ∀ H3, Ex H2 H3 → ∃ b, PySem.W.exmOne K (.ref D) (.ref T.c_TurnError) = some b ∧ (b = true → ∀ y, H3 y = none → tAsg (tCallE (sp__law_which T y (.ref D) none) (tCons (tVar 6) tNil)) (gName 4)
        { nx := fun σ' H' => tRet (tTup (tCons (tVar 4) (tCons (tVar 5) tNil))) { nx := fun _ H' => Q .non H', rt := Q } (σ'.set 6 none) H', rt := Q } [some (.int (how : Int)), some (.int c), some (.ref a), some (.ref x), some (.int (-1)), some .non, some (.ref y)] H3) ∧ (b = false → False) := fun D i hD hex hi H3 e3 => by
      refine ⟨true, hex, fun _ y hy => ?_, fun z => nomatch z⟩
      refine ⟨.ref y, rfl, D, i, hD, rfl, rfl, rfl, fun H4 e4 => ?_⟩
      refine s_retU (eu_tup (ea_cons (ev_var (v := .int (i : Int)) rfl) (ea_cons (ev_var (v := .non) rfl) ea_nil)) (by show 2 ≤ 100000; decide)) fun p H5 hp e5 hp5 => ?_
      subst hi
      exact q H5 p ((e02.trans e3).trans (e4.trans e5)) hp5
    rcases hcase with ⟨h01, hC, hwh⟩ | ⟨h1, hC, hu, hwh⟩
    · rcases h01 with rfl | rfl
      · refine i_take rfl rfl (s_asgS (ea_cons (ev_var (v := .int c) rfl) (ea_cons (ev_var (v := .ref a) rfl) ea_nil)) fun H3 e3 => ⟨c, a, ls, rfl, hL2.mono e3, hl, fun _ H4 e4 => ?_, fun n en hn => absurd (en ▸ hn) hC⟩)
        obtain ⟨b, hb1, hb2, hb3⟩ := hsu T.c_NoCut 3 rfl (T.x_TurnError.exm T.u_NoCut_TurnError) hwh.symm H4 (e3.trans e4)
        exact ⟨b, hb1, hb2, hb3⟩
      · refine i_skip rfl (by decide) (s_asgS (ea_cons (ev_var (v := .int c) rfl) (ea_cons (ev_var (v := .ref a) rfl) (ea_cons (ev_var (v := .ref x) rfl) ea_nil))) fun H3 e3 => ⟨c, a, x, ls, u, rfl, hL2.mono e3, hl, hx2.mono e3, fun _ H4 e4 => ?_, fun z => absurd z hC, fun n en hn => absurd (en ▸ hn) hC⟩)
        obtain ⟨b, hb1, hb2, hb3⟩ := hsu T.c_NoCut 3 rfl (T.x_TurnError.exm T.u_NoCut_TurnError) hwh.symm H4 (e3.trans e4)
        exact ⟨b, hb1, hb2, hb3⟩
    · subst h1
      refine i_skip rfl (by decide) (s_asgS (ea_cons (ev_var (v := .int c) rfl) (ea_cons (ev_var (v := .ref a) rfl) (ea_cons (ev_var (v := .ref x) rfl) ea_nil))) fun H3 e3 => ⟨c, a, x, ls, u, rfl, hL2.mono e3, hl, hx2.mono e3, fun z => absurd hC z, fun _ _ H4 e4 => ?_, fun n en hn hm => absurd hm hu⟩)
      obtain ⟨b, hb1, hb2, hb3⟩ := hsu T.c_NoBox 1 rfl (T.x_TurnError.exm T.u_NoBox_TurnError) hwh.symm H4 (e3.trans e4)
      exact ⟨b, hb1, hb2, hb3⟩
end
end AT

/-! ## what is told of a cut -/
namespace AT
open PySem PySem.Spec PyProof.Rows L2 Evl
theorem drop1_setF {n : Nat} {f : Nat → Nat → Int} {v : Int} : (Fm n (setF f 0 0 v)).drop 1 = (Fm n f).drop 1 := by
  unfold Fm
  rw [← List.map_drop, ← List.map_drop]
  refine List.map_congr_left fun a ha => ?_
  have : 0 < a := by
    obtain ⟨b, hb, e⟩ := List.mem_iff_getElem.mp ha
    rw [List.getElem_drop, List.getElem_range] at e
    omega
  refine List.map_congr_left fun b _ => ?_
  unfold setF
  rw [if_neg (by omega)]
section
variable {K : Frag} {σ : St} {H H0 H1 : Hp} {te ta tb t1 t2 : TE} {a x p l : Addr} {D : Ends} {tz : TS}
theorem PT.ty {u : Ln} (h : PT K H x u) : TyX K H (.ref x) (.type "tuple") := by
  rcases h with (h | ⟨o', h⟩) | ⟨o, its, n, h1, h2, _⟩
  · exact .base (.tup h)
  · exact .fTuple h
  · exact .kTuple h1 h2
theorem ev_isTup {u : Ln} (ha : Ev ta σ H (.ref x)) (h : PT K H x u) : Ev (tCB (rIsi K) (tCons ta (tCons (tC (.ty "tuple")) tNil))) σ H (.bl true) := ev_isi (u := .none) (w := .none) (n := "tuple") ha (fun H1 e => (h.mono e).ty) (kit_ty (by decide +kernel))
theorem all_true : ∀ n : Nat, (((List.range n).map fun _ => true).all id) = true := fun n => by simp
theorem ev_allT {n : Nat} (h : EvL te σ H (given n (fun _ => true) fun _ => .bl true)) : Ev (tCB (rAll K) (tCons te tNil)) σ H (.bl true) := fun H1 e Q q =>
  h H1 e _ fun p H2 hp e2 hp2 => ⟨p, (List.range n).map fun _ => true, rfl, by
    have : given n (fun _ => true) (fun _ => V.bl true) = ((List.range n).map fun _ => true).map V.bl := by
      unfold given
      rw [filt_all, List.map_map]; rfl
    rw [this] at hp2
    exact sq_of hp2, by rw [all_true]; exact q H2 e2⟩
theorem ev_like1 {n : Nat} {f : Nat → Nat → Int} {v : Int} {r d : Addr} {E : XK} (hn : n ≤ 900) (h1 : Ev t1 σ H (.ref r)) (hO : OLLI H0 H r (Fm n (setF f 0 0 v))) (h2 : Ev t2 σ H (.ref d)) (hD : OLLI H1 H d (Fm n f)) :
    Ev (tCall (sp__law_like K) [] E (tCons (tSl (rSlL K) t1 (tPart (tC (.int 1))) tNoPart) (tCons (tSl (rSlL K) t2 (tPart (tC (.int 1))) tNoPart) tNil))) σ H (.bl true) :=
  ev_cast (ev_callR2 (z := .bl (decide ((Fm n (setF f 0 0 v)).drop 1 = (Fm n f).drop 1))) (er_slice1 h1 hO) (er_slice1 h2 hD) fun v1 v2 G1 G2 G3 g1 g2 g3 ⟨y1, hv1, hy1⟩ ⟨y2, hv2, hy2⟩ G4 g4 Q' q' E' => by
    subst hv1; subst hv2
    refine ⟨y1, y2, _, _, rfl, (hy1.mono g3).mono g4, hy2.lli.mono g4, ?_, q'⟩
    obtain ⟨s1, s2⟩ := small_fm (n := n) (f := setF f 0 0 v) (by omega)
    exact ⟨by rw [List.length_drop]; omega, fun r hr => s2 r (List.mem_of_mem_drop hr)⟩) (by rw [drop1_setF]; simp)
end
def sp__law_told13 (K : Frag) : Sp := fun vs H Q _ => ∃ (n : Nat) (a h : Addr) (ls : List Ln), vs = [.int (n : Int), .ref a, .ref h] ∧ LP K H a ls ∧ LP K H h ls ∧ IsCut n ls ∧ ∀ H', Ex H H' → Q (.bl true) H'
section
variable {P : Program} {w : World} {K : Frag} {mg : Str → Option Value} {base : Heap} {k : Nat}
theorem ok__law_told13 (T : Txt K mg) (G__law_form_of : FnOk P w K mg base CX0 k T.f__law_form_of T.d__law_form_of ["corners", "lines"] (sp_form_by K)) (G_form_of : FnOk P w K mg base (L2.CX P w) k T.f_form_of T.d_form_of ["corners", "lines"] (sp_form_of K T.c_NoCut))
    (G__law_like : FnOk P w K mg base CX0 k T.f__law_like T.d__law_like ["found", "due"] (sp__law_like K)) (G__law_parts : FnOk P w K mg base CX0 k T.f__law_parts T.d__law_parts ["corners", "lines"] (sp_triangles K)) (G_cut_turned : FnOk P w K mg base (L2.CX P w) k T.f_cut_turned T.d_cut_turned ["corners", "lines", "line"] (sp_cut_turned K T.c_NoCut T.c_NoBox)) :
    FnOk P w K mg base CX0 (k + 1) T.f__law_told T.d__law_told ["corners", "lines", "handed"] (sp__law_told13 K) := by
  refine T.F__law_told.ok sc__law_told (fun vs H Q E h => ?_) (fun cdv A outer s H vs Q E hr h => ?_)
  · obtain ⟨n, a, h, ls, rfl, _⟩ := h
    rfl
  · obtain ⟨n, a, h, ls, rfl, hL, hL', hC, q⟩ := h
    refine ⟨_, (pss_cons (ps_set (i := 3) sc__law_told.nd rfl (.inl rfl) (pe_call G__law_form_of hr rfl T.m__law_form_of T.F__law_form_of.kp T.b__law_form_of .nil pass0 (pa_cons (pv 0) (pa_cons (pv 1) pa_nil))))
      (pss_cons (ps_for PassesOwn.never rfl (pi_range1 rfl T.b_range (pa_cons pe_int pa_nil)) (pg_name (i := 4) sc__law_told.nd rfl (.inl rfl))
        (pss_cons (ps_set (i := 5) sc__law_told.nd rfl (.inl rfl) (pe_call G_form_of hr rfl T.m_form_of T.F_form_of.kp T.b_form_of .nil passL (pa_cons (pv 0) (pa_cons (pv 2) pa_nil))))
      (pss_cons (ps_if (pt_not (pt_val (pe_call G__law_like hr rfl T.m__law_like T.F__law_like.kp T.b__law_like .nil pass0 (pa_cons (pv 5) (pa_cons (pv 3) pa_nil)))))
        (pss_one (ps_ret pe_bl))
        pss_nil)
      (pss_cons (ps_asg pe_int (pg_sub (pe_ix (ixL K) (pv 5) pe_int (fun _ _ => rfl)) pe_int set_list))
      (pss_one (ps_if (pt_not (pt_val (pe_call G__law_like hr rfl T.m__law_like T.F__law_like.kp T.b__law_like .nil pass0 (pa_cons (pe_slice (slL K) (pv 5) (po_some pe_int) po_none) (pa_cons (pe_slice (slL K) (pv 3) (po_some pe_int) po_none) pa_nil)))))
        (pss_one (ps_ret pe_bl))
        pss_nil))))))
      (pss_cons (ps_for PassesOwn.never rfl (pi_listK K (pv 1)) (pg_name (i := 6) sc__law_told.nd rfl (.inr rfl))
        (pss_cons (ps_setLc (i := 7) (own := [("part", 9)]) rfl sc__law_told.nd rfl rfl (sw_true rfl rfl rfl (by decide +kernel)) (pi_listK K (pe_call G__law_parts hr rfl T.m__law_parts T.F__law_parts.kp T.b__law_parts .nil pass0 (pa_cons (pv 0) (pa_cons (pv 1) pa_nil)))) (blkOk_by (own := [("part", 9)]) (N := N__law_told) (sc := defScope s__law_told) (by decide +kernel)) (fun _ _ _ _ _ => (pg_name (i := 9) sc__law_told.nd rfl (.inl rfl))) (fun _ _ _ _ _ => (pts_one (PW.pt (pw_and (pt_cmpR (inK K) (pe_ix (ixT K) (pv 6) pe_int (fun _ _ => rfl)) (pv 9) rfl) (pw_and1 (pt_cmpR (inK K) (pe_ix (ixT K) (pv 6) pe_int (fun _ _ => rfl)) (pv 9) rfl)))))) (fun _ _ _ _ _ => (pe_op op_sub (pe_callB (sumTK K rfl) rfl T.b_sum (by decide +kernel) (pa_cons (pv 9) pa_nil)) (pe_callB (sumTK K rfl) rfl T.b_sum (by decide +kernel) (pa_cons (pv 6) pa_nil)))))
      (pss_cons (ps_set (i := 8) sc__law_told.nd rfl (.inl rfl) (pe_callB (sortedDK K hr.units) rfl T.b_sorted (by decide +kernel) (pa_cons (pe_op op_cat (pe_lc (own := [("one", 10)]) rfl sc__law_told.nd (pi_listK K (pv 1)) (blkOk_by (own := [("one", 10)]) (N := N__law_told) (sc := defScope s__law_told) (by decide +kernel)) (fun _ _ _ _ _ => (pg_name (i := 10) sc__law_told.nd rfl (.inl rfl))) (fun _ _ _ _ _ => (pts_one (pt_cmpR (neDK K hr.units) (pv 10) (pv 6) (nomark _)))) (fun _ _ _ _ _ => (pv 10))) (pe_lst (pa_cons (pe_tup (pa_cons (pe_callB (minK K rfl) rfl T.b_min (by decide +kernel) (pa_cons (pv 7) pa_nil)) (pa_cons (pe_callB (maxK K rfl) rfl T.b_max (by decide +kernel) (pa_cons (pv 7) pa_nil)) pa_nil))) pa_nil))) pa_nil)))
      (pss_one (ps_for PassesOwn.never rfl (pi_range1 rfl T.b_range (pa_cons pe_int pa_nil)) (pg_name (i := 4) sc__law_told.nd rfl (.inl rfl))
        (pss_cons (ps_set (i := 5) sc__law_told.nd rfl (.inl rfl) (pe_call G_cut_turned hr rfl T.m_cut_turned T.F_cut_turned.kp T.b_cut_turned .nil passL (pa_cons (pv 0) (pa_cons (pv 2) (pa_cons (pv 6) pa_nil)))))
      (pss_cons (ps_if (PW.pt (pw_or (pt_not (pt_val (pe_callB (isiK K) rfl T.b_isinstance (by decide +kernel) (pa_cons (pv 5) (pa_cons (pe_bltn (v := .ty "list") rfl T.b_list (by decide +kernel) rfl) pa_nil))))) (pw_or (pt_cmpR (neDK K hr.units) (pv 5) (pv 8) (nomark _)) (pw_or1 (pt_not (pt_val (pe_callB (allK K rfl) rfl T.b_all (by decide +kernel) (pa_cons (pe_lc (own := [("one", 10)]) rfl sc__law_told.nd (pi_listK K (pv 5)) (blkOk_by (own := [("one", 10)]) (N := N__law_told) (sc := defScope s__law_told) (by decide +kernel)) (fun _ _ _ _ _ => (pg_name (i := 10) sc__law_told.nd rfl (.inl rfl))) (fun _ _ _ _ _ => pts_nil) (fun _ _ _ _ _ => (pe_callB (isiK K) rfl T.b_isinstance (by decide +kernel) (pa_cons (pv 10) (pa_cons (pe_bltn (v := .ty "tuple") rfl T.b_tuple (by decide +kernel) rfl) pa_nil))))) pa_nil))))))))
        (pss_one (ps_ret pe_bl))
        pss_nil)
      (pss_one (ps_expr (bmK K PySem.F.plainAttrs_list PySem.F.slot_list_append PySem.F.type_list_append mt_append (pv 5) (pa_cons (pe_tup (pa_cons pe_int (pa_cons pe_int pa_nil))) pa_nil)))))))))))
      (pss_one (ps_ret pe_bl))))), ?_⟩
    have hn := hC.nat_len
    refine qr_asg (er_formby (ea_cons (ev_var rfl) (ea_cons (ev_var rfl) ea_nil)) hL hC) fun v H1 e1 ⟨p, hv, hO⟩ => ?_
    subst hv
    have sm : SmallM (Fm ls.length (formF n ls)) := small_fm (by omega)
    refine q_forR1 (n := 2) (ea_cons ev_c ea_nil) (by decide) (fun i σ' H' => ∃ x4 x5, σ' = [some (.int (n : Int)), some (.ref a), some (.ref h), some (.ref p), x4, x5, none, none, none, none, none] ∧ Ex H1 H') (fun H2 e2 => ⟨_, _, rfl, e2⟩) (fun i σ' H' hi hP => ?_) (fun σ' H' hP => ?_)
    · obtain ⟨x4, x5, rfl, eH⟩ := hP
      have e0H := e1.trans eH
      refine qr_asg (er_formof (CC := T.c_NoCut) (ea_cons (ev_var (v := .int (n : Int)) rfl) (ea_cons (ev_var (v := .ref h) rfl) ea_nil)) (hL'.mono e0H) hC) fun v H2 e2 ⟨r, hv, hOr⟩ => ?_
      subst hv
      refine q_when (b := false) (et_is (et_not (et_test (ev_call (ea_cons (ev_var (v := .ref r) rfl) (ea_cons (ev_var (v := .ref p) rfl) ea_nil)) (spv_like hOr.tll (hO.lli.mono (eH.trans e2)) sm)))) (by simp)) (fun hb => nomatch hb) (fun _ H3 e3 => ?_)
      refine q_setFm (i := 0) (j := 0) (hOr.mono e3) (e2.trans e3) (by omega) (by omega) ev_c (ev_var rfl) ev_c ev_c fun H4 e4 hO4 => ?_
      refine s_when (b := false) (et_is (et_not (et_test (ev_like1 (by omega) (ev_var rfl) hO4 (ev_var rfl) (hO.mono (eH.trans e4))))) rfl) (fun hb => nomatch hb) (fun _ H5 e5 => ⟨_, _, rfl, eH.trans (e4.trans e5)⟩)
    · obtain ⟨x4, x5, rfl, eH⟩ := hP
      have e0H := e1.trans eH
      obtain ⟨as, hA, hP⟩ := id hL
      have hlen := hP.length
      refine q_forLn (ev_var (v := .ref a) rfl) (ex_l e0H hA) (fun i σ' H'' => ∃ x4 x5 x6 x7 x8, σ' = [some (.int (n : Int)), some (.ref a), some (.ref h), some (.ref p), x4, x5, x6, x7, x8, none, none] ∧ Ex H H'') (fun H2 e2 => ⟨_, _, _, _, _, rfl, e0H.trans e2⟩) (fun i σ' H'' _ ⟨_, _, _, _, _, _, e⟩ => ex_l e hA) (fun i x σ' H2 hx hQ => ?_) (fun σ' H2 hQ => ?_)
      · obtain ⟨x4, x5, x6, x7, x8, rfl, e2⟩ := hQ
        rw [List.getElem?_map] at hx
        cases hy : as[i]? with
        | none => rw [hy] at hx; cases hx
        | some y =>
          rw [hy] at hx
          cases hx
          obtain ⟨u, hu1, hu2⟩ := paired_getL hP hy
          have hum : u ∈ ls := List.mem_of_getElem? hu1
          have hu := hu2.mono e2
          have hne := left_ne hC hum
          refine q_asgL (xs := (leftOf n ls u).map V.int) ?_ fun s H3 hs e3 hs3 => ?_
          · have := el_lcE (K := K) (σ := [some (.int (n : Int)), some (.ref a), some (.ref h), some (.ref p), x4, x5, some (.ref y), x7, x8, none, none]) (H := H2) (tl := tCall (sp_triangles K) [] E0 (tCons (tVar 0) (tCons (tVar 1) tNil)))
              (te := tOp (rI0 fun i j => .int (i - j)) (tCB (rSumT K) (tCons (tVar 9) tNil)) (tCB (rSumT K) (tCons (tVar 6) tNil))) (t := tAnd (tTest (tOp (rIn K false) (tOp (rIxT K) (tVar 6) (tC (.int 0))) (tVar 9))) (tTest (tOp (rIn K false) (tOp (rIxT K) (tVar 6) (tC (.int 1))) (tVar 9))))
              (j := 9) (vs := [9]) (n := (tris n ls).length) (fun i => (fun t => hasT t u.1 && hasT t u.2) ((tris n ls).getD i (0, 0, 0))) (fun i => (fun t : Tr => V.int ((t.1 : Int) + t.2.1 + t.2.2 - u.1 - u.2)) ((tris n ls).getD i (0, 0, 0)))
              (er_tris (ea_cons (ev_var (v := .int (n : Int)) rfl) (ea_cons (ev_var (v := .ref a) rfl) ea_nil)) (hL.mono e2) (by omega)) ?_ (fun _ => rfl) (fun G1 G2 v0 g1 g2 ⟨t, hv, hT⟩ => ?_)
            · rw [given_filter (0, 0, 0) (tris n ls) (fun t => hasT t u.1 && hasT t u.2) (fun t : Tr => V.int ((t.1 : Int) + t.2.1 + t.2.2 - u.1 - u.2))] at this
              have e : (leftOf n ls u).map V.int = ((tris n ls).filter fun t => hasT t u.1 && hasT t u.2).map (fun t : Tr => V.int ((t.1 : Int) + t.2.1 + t.2.2 - u.1 - u.2)) := by
                unfold leftOf
                rw [List.map_map]; rfl
              rw [e]
              exact this
            · have h1 := tri3_len (ls := ls) (n := n) (m := n) (by omega)
              have h2 : n * (n * n) ≤ 9 * (9 * 9) := Nat.mul_le_mul (by omega) (Nat.mul_le_mul (by omega) (by omega))
              show (tri3 n ls n).length ≤ 40000
              omega
            · subst hv
              obtain ⟨ts, ht1, ht2⟩ := hT.2
              refine ⟨t, ts.map V.ref, rfl, sq_of ht1, by rw [List.length_map, ht2.length], fun j z G3 hz g3 => ?_⟩
              rw [List.getElem?_map] at hz
              cases hw : ts[j]? with
              | none => rw [hw] at hz; cases hz
              | some w' =>
                rw [hw] at hz
                cases hz
                obtain ⟨tr, htr, hw2⟩ := paired_getL ht2 hw
                have hd : (tris n ls).getD j (0, 0, 0) = tr := by rw [List.getD_eq_getElem?_getD, htr]; rfl
                have hzs : SqT K G3 w' (trV tr) := st_of (g3 _ _ hw2)
                have hu3 := hu.mono ((g1.trans g2).trans g3)
                rw [hd]
                refine ⟨et_is (et_and (et_test (ev_op (ev_p1 (ev_var (v := .ref y) rfl) ev_c hu3) (ev_var (v := .ref w') rfl) (rv_isT hzs rfl rfl))) fun _ => et_test (ev_op (ev_p2 (ev_var (v := .ref y) rfl) ev_c hu3) (ev_var (v := .ref w') rfl) (rv_isT hzs rfl rfl))) (by rw [inV_three, inV_three]), fun _ => ?_⟩
                refine ev_cast (ev_op (ev_sumT (ns := [(tr.1 : Int), (tr.2.1 : Int), (tr.2.2 : Int)]) (ev_var (v := .ref w') rfl) hzs) (ev_sumT (ns := [u.1, u.2]) (ev_var (v := .ref y) rfl) hu3) rv_I0) ?_
                congr 1
                simp only [List.sum_cons, List.sum_nil]
                omega
          · have hLI : LI K H3 s (leftOf n ls u) := sq_of hs3
            have e03 := e2.trans e3
            refine qr_asg (er_sortedP (er_newcut (ev_var (v := .ref a) rfl) (hL.mono e03) (by omega) (fun _ => rfl) (fun _ => rfl) (fun _ _ => ev_var rfl) (hu.mono e3) (ev_minN (ev_var rfl) hLI hne) (ev_maxN (ev_var rfl) hLI hne)) (fun G1 G2 v hv => hv) ?_) fun v H4 e4 ⟨d, hv, hD⟩ => ?_
            · have := List.length_filter_le (fun q => !decide (q = u)) ls
              rw [List.length_append]
              show _ + 1 ≤ 10000
              omega
            · subst hv
              have hD : OLP K H3 H4 d (turnC n ls u) := hD
              have hDl : (turnC n ls u).length ≤ 1000 := by
                have := List.length_filter_le (fun q => !decide (q = u)) ls
                unfold turnC sortP
                rw [List.length_mergeSort, List.length_append]
                show _ + 1 ≤ 1000
                omega
              have e04 := e03.trans e4
              refine s_forR1 (n := 2) (ea_cons ev_c ea_nil) (by decide) (fun j σ' H'' => ∃ x4 x5, σ' = [some (.int (n : Int)), some (.ref a), some (.ref h), some (.ref p), x4, x5, some (.ref y), some (.ref s), some (.ref d), none, none] ∧ Ex H4 H'') (fun H5 e5 => ⟨_, _, rfl, e5⟩) (fun j σ' H5 hj hR => ?_) (fun σ' H5 hR => ?_)
              · obtain ⟨x4, x5, rfl, e5⟩ := hR
                have e05 := e04.trans e5
                refine qr_asg (er_cutt (CC := T.c_NoCut) (CB := T.c_NoBox) (ea_cons (ev_var (v := .int (n : Int)) rfl) (ea_cons (ev_var (v := .ref h) rfl) (ea_cons (ev_var (v := .ref y) rfl) ea_nil))) (hL'.mono e05) hC (hu2.mono e05) hum) fun v H6 e6 ⟨r, hv, hOr⟩ => ?_
                subst hv
                obtain ⟨bs, hb1, hb2⟩ := hOr.2
                have hblen := hb2.length
                refine q_when (b := false) (et_is (et_or (et_not (et_test (ev_isList (ev_var (v := .ref r) rfl) hb1))) fun _ => et_or (et_test (ev_op (ev_var (v := .ref r) rfl) (ev_var (v := .ref d) rfl) (rv_neLP hOr.lp (hD.lp.mono (e5.trans e6))))) fun _ => et_not (et_test (ev_allT (n := (bs.map V.ref).length) (el_lcL (fun _ => true) (fun _ => .bl true) (ev_var (v := .ref r) rfl) (sq_of hb1) (by rw [List.length_map]; omega) (fun _ => rfl) (fun _ _ _ _ _ _ _ Q q => q _ (Ex.refl _)) (fun j z G1 g1 hz _ => by
                  rw [List.getElem?_map] at hz
                  cases hw : bs[j]? with
                  | none => rw [hw] at hz; cases hz
                  | some w' =>
                    rw [hw] at hz
                    cases hz
                    obtain ⟨u', _, hw2⟩ := paired_getL hb2 hw
                    exact ev_isTup (ev_var rfl) (hw2.mono g1)))))) (by simp)) (fun hb => nomatch hb) (fun _ H7 e7 => ?_)
                refine s_appU (e7 _ _ hb1) (ev_var rfl) (eu_tup (ea_cons ev_c (ea_cons ev_c ea_nil)) (by show 2 ≤ 100000; decide)) (by rw [List.length_map]; omega) fun z H8 hz e8 hz8 => ⟨_, _, rfl, Ex.mut (((e5.trans e6).trans e7).trans e8) (fresh_back e5 hOr.1)⟩
              · obtain ⟨x4, x5, rfl, e5⟩ := hR
                exact ⟨_, _, _, _, _, rfl, e04.trans e5⟩
      · obtain ⟨x4, x5, x6, x7, x8, rfl, e2⟩ := hQ
        exact s_ret ev_c fun H3 e3 => q H3 (e2.trans e3)
end
end AT

namespace AT
open PySem PySem.Spec PyProof.Rows L2 Evl L2H
def sp_law (K : Frag) : Sp := fun vs H Q _ => ∃ (a : Addr) (ns : List Int), vs = [.ref a] ∧ SqL K H a (ns.map V.int) ∧ ns.length ≤ 63 ∧ ∀ H', Q (.bl true) H'
/-- what _law_met tells -/
def RMet (i : Int) : R3 := fun _ H2 v => ∃ p, v = .ref p ∧ H2 p = some (.tup [.int i, .non])
section
variable {K : Frag} {σ : St} {H : Hp} {t1 t2 : TE}
theorem dp_met {p : Addr} {i : Int} (h : H p = some (.tup [.int i, .non])) : Dp K H (.ref p) (.tuple [.int i, .none]) := .tup (st_of h) (.cons (.int _) (.cons .non .nil))
theorem ev_metEq {i : Int} (h1 : Er t1 σ H (RMet i)) (h2 : EvU t2 σ H [.int i, .non]) : Ev (tOp (rEqD K) t1 t2) σ H (.bl true) := fun H1 e Q q =>
  h1 H1 e _ fun v H2 e2 ⟨p, hv, hp⟩ => by
    subst hv
    refine h2 H2 (e.trans e2) _ fun r H3 hr e3 hr3 => ⟨_, _, dp_met (e3 _ _ hp), dp_met hr3, ?_, ?_, ?_⟩
    · unfold SeqAt.shaped
      rw [Bool.and_eq_true]
      exact ⟨by simp [PyData.canLay0, PyData.canLayAll0], decide_eq_true (by simp [PyData.depth, PyData.depthAll])⟩
    · unfold SeqAt.shaped
      rw [Bool.and_eq_true]
      exact ⟨by simp [PyData.canLay0, PyData.canLayAll0], decide_eq_true (by simp [PyData.depth, PyData.depthAll])⟩
    · have : PyData.eqv (.tuple [.int i, .none]) (.tuple [.int i, .none]) = true := by simp [PyData.eqv, PyData.eqvAll]
      rw [this]
      exact q H3 (e2.trans e3)
end
section
variable {P : Program} {w : World} {K : Frag} {mg : Str → Option Value} {base : Heap} {k : Nat}
theorem ok_law (T : Txt K mg) (G__law_cell : FnOk P w K mg base CX0 k T.f__law_cell T.d__law_cell ["script", "k"] (sp__law_cell K)) (G__law_cut : FnOk P w K mg base CX0 k T.f__law_cut T.d__law_cut ["script", "k", "corners"] (sp__law_cut K)) (G__law_hurt : FnOk P w K mg base CX0 k T.f__law_hurt T.d__law_hurt ["lines", "mode", "cell", "number"] (sp__law_hurt K))
    (G_is_cut : FnOk P w K mg base CX0 k T.f_is_cut T.d_is_cut ["corners", "lines"] (sp_is_cut K)) (G__law_is_cut : FnOk P w K mg base CX0 k T.f__law_is_cut T.d__law_is_cut ["corners", "lines"] (sp_is_cut K)) (G__law_met : FnOk P w K mg base CX0 k T.f__law_met T.d__law_met ["how", "corners", "lines", "line"] (sp__law_met13 K))
    (G__law_told : FnOk P w K mg base CX0 k T.f__law_told T.d__law_told ["corners", "lines", "handed"] (sp__law_told13 K)) : FnOk P w K mg base CX0 (k + 1) T.f_law T.d_law ["script"] (sp_law K) := by
  refine T.F_law.ok sc_law (fun vs H Q E h => ?_) (fun cdv A outer s H vs Q E hr h => ?_)
  · obtain ⟨a, ns, rfl, _⟩ := h
    rfl
  · obtain ⟨a, ns, rfl, hL, hlen, q⟩ := h
    have hL : LI K H a ns := hL
    refine ⟨_, (pss_cons (ps_set (i := 1) sc_law.nd rfl (.inl rfl) (pe_op op_add pe_int (pe_op op_modN (pe_call G__law_cell hr rfl T.m__law_cell T.F__law_cell.kp T.b__law_cell .nil pass0 (pa_cons (pv 0) (pa_cons pe_int pa_nil))) pe_int)))
      (pss_cons (ps_set (i := 2) sc_law.nd rfl (.inl rfl) (pe_call G__law_cut hr rfl T.m__law_cut T.F__law_cut.kp T.b__law_cut .nil pass0 (pa_cons (pv 0) (pa_cons pe_int (pa_cons (pv 1) pa_nil)))))
      (pss_cons (ps_set (i := 3) sc_law.nd rfl (.inl rfl) (pe_op op_modN (pe_call G__law_cell hr rfl T.m__law_cell T.F__law_cell.kp T.b__law_cell .nil pass0 (pa_cons (pv 0) (pa_cons pe_int pa_nil))) pe_int))
      (pss_cut (ps_if (pt_cmpR op_gt (pv 3) pe_int (nomark _))
        (pss_one (ps_set (i := 2) sc_law.nd rfl (.inl rfl) (pe_call G__law_hurt hr rfl T.m__law_hurt T.F__law_hurt.kp T.b__law_hurt .nil pass0 (pa_cons (pv 2) (pa_cons (pe_op op_add pe_int (pe_op op_modN (pe_op op_fdivN (pe_call G__law_cell hr rfl T.m__law_cell T.F__law_cell.kp T.b__law_cell .nil pass0 (pa_cons (pv 0) (pa_cons pe_int pa_nil))) pe_int) pe_int)) (pa_cons (pe_call G__law_cell hr rfl T.m__law_cell T.F__law_cell.kp T.b__law_cell .nil pass0 (pa_cons (pv 0) (pa_cons pe_int pa_nil))) (pa_cons (pe_call G__law_cell hr rfl T.m__law_cell T.F__law_cell.kp T.b__law_cell .nil pass0 (pa_cons (pv 0) (pa_cons pe_int pa_nil))) pa_nil)))))))
        pss_nil)
      (pss_cut (ps_if (pt_cmpR op_eq (pe_op op_modN (pe_call G__law_cell hr rfl T.m__law_cell T.F__law_cell.kp T.b__law_cell .nil pass0 (pa_cons (pv 0) (pa_cons pe_int pa_nil))) pe_int) pe_int (nomark _))
        (pss_one (ps_set (i := 1) sc_law.nd rfl (.inl rfl) (pe_ix (ixL K) (pe_lst (pa_cons (pe_op op_add (pv 1) pe_int) (pa_cons (pe_op op_sub (pv 1) pe_int) (pa_cons pe_int (pa_cons pe_int (pa_cons (pe_op op_pow pe_int pe_int) (pa_cons pe_int pa_nil))))))) (pe_op op_modN (pe_call G__law_cell hr rfl T.m__law_cell T.F__law_cell.kp T.b__law_cell .nil pass0 (pa_cons (pv 0) (pa_cons pe_int pa_nil))) pe_int) (fun _ _ => rfl))))
        pss_nil)
      (pss_cons (ps_set (i := 4) sc_law.nd rfl (.inl rfl) (pe_callTy (listK K) rfl T.b_list (by decide +kernel) (pa_cons (pv 2) pa_nil)))
      (pss_cons (ps_set (i := 5) sc_law.nd rfl (.inl rfl) (pe_call G_is_cut hr rfl T.m_is_cut T.F_is_cut.kp T.b_is_cut .nil pass0 (pa_cons (pv 1) (pa_cons (pv 4) pa_nil))))
      (pss_cons (ps_set (i := 6) sc_law.nd rfl (.inl rfl) (pe_call G__law_is_cut hr rfl T.m__law_is_cut T.F__law_is_cut.kp T.b__law_is_cut .nil pass0 (pa_cons (pv 1) (pa_cons (pv 2) pa_nil))))
      (pss_cons (ps_if (PW.pt (pw_or (pt_not (pt_val (pe_callB (isiK K) rfl T.b_isinstance (by decide +kernel) (pa_cons (pv 5) (pa_cons (pe_bltn (v := .ty "bool") rfl T.b_bool (by decide +kernel) rfl) pa_nil))))) (pw_or (pt_cmpR op_ne (pv 5) (pv 6) (nomark _)) (pw_or1 (pt_cmpR (neDK K hr.units) (pv 4) (pv 2) (nomark _))))))
        (pss_one (ps_ret pe_bl))
        pss_nil)
      (pss_cons (ps_set (i := 7) sc_law.nd rfl (.inl rfl) (pe_tup (pa_cons (pe_op op_modN (pe_call G__law_cell hr rfl T.m__law_cell T.F__law_cell.kp T.b__law_cell .nil pass0 (pa_cons (pv 0) (pa_cons pe_int pa_nil))) pe_int) (pa_cons (pe_op op_modN (pe_call G__law_cell hr rfl T.m__law_cell T.F__law_cell.kp T.b__law_cell .nil pass0 (pa_cons (pv 0) (pa_cons pe_int pa_nil))) pe_int) pa_nil))))
      (pss_cons (ps_if (pt_not (pt_val (pv 6)))
        (pss_one (ps_ret (pe_and (pe_cmpR (eqDK K hr.units) (pe_call G__law_met hr rfl T.m__law_met T.F__law_met.kp T.b__law_met .nil pass0 (pa_cons pe_int (pa_cons (pv 1) (pa_cons (pv 4) (pa_cons (pv 7) pa_nil))))) (pe_tup (pa_cons pe_int (pa_cons pe_non pa_nil))) (nomark _)) (pe_one (pe_cmpR (eqDK K hr.units) (pe_call G__law_met hr rfl T.m__law_met T.F__law_met.kp T.b__law_met .nil pass0 (pa_cons pe_int (pa_cons (pv 1) (pa_cons (pv 4) (pa_cons (pv 7) pa_nil))))) (pe_tup (pa_cons pe_int (pa_cons pe_non pa_nil))) (nomark _))))))
        pss_nil)
      (pss_cons (ps_if (PW.pt (pw_or (pt_not (pt_val (pe_call G__law_told hr rfl T.m__law_told T.F__law_told.kp T.b__law_told .nil pass0 (pa_cons (pv 1) (pa_cons (pv 2) (pa_cons (pv 4) pa_nil)))))) (pw_or1 (pt_cmpR (neDK K hr.units) (pv 4) (pv 2) (nomark _)))))
        (pss_one (ps_ret pe_bl))
        pss_nil)
      (pss_one (ps_ret (pe_or (pe_cmpR (inDK K hr.units65) (pv 7) (pv 2) rfl) (pe_one (pe_cmpR (eqDK K hr.units) (pe_call G__law_met hr rfl T.m__law_met T.F__law_met.kp T.b__law_met .nil pass0 (pa_cons pe_int (pa_cons (pv 1) (pa_cons (pv 4) (pa_cons (pv 7) pa_nil))))) (pe_tup (pa_cons pe_int (pa_cons pe_non pa_nil))) (nomark _)))))))))))))))))), ?_⟩
    have hcv : ∀ (j : Nat) (σ : St) (H1 : Hp), Ex H H1 → j ≤ 1000 → σ[0]? = some (some (.ref a)) → Ev (tCall (sp__law_cell K) [] E0 (tCons (tVar 0) (tCons (tC (.int (j : Int))) tNil))) σ H1 (.int (cellV ns j)) := fun j σ H1 e hj h0 => ev_cv (hL.mono e) (ea_cons (ev_var h0) (ea_cons ev_c ea_nil)) (by omega)
    obtain ⟨n, hn, hn4, hn9⟩ : ∃ n : Nat, 4 + cellV ns 0 % 6 = (n : Int) ∧ 4 ≤ n ∧ n ≤ 9 := ⟨(4 + cellV ns 0 % 6).toNat, by omega, by omega, by omega⟩
    refine q_asg (v := .int (n : Int)) (ev_cast (ev_op ev_c (ev_mod (hcv 0 _ H (Ex.refl _) (by decide) rfl) ev_c (by decide)) rv_I0) (by rw [hn])) fun H1 e1 => ?_
    refine qr_asg (R := fun H1 H2 v => ∃ ls p, v = .ref p ∧ IsCut (n : Int) ls ∧ OLP K H1 H2 p ls) (fun H2 e2 Q' q' => ⟨.ref a, rfl, .int (n : Int), rfl, a, ns, 2, n, rfl, hL.mono (e1.trans e2), by decide, hn4, hn9, fun ls H' p e hC hO => q' _ H' e ⟨ls, p, rfl, hC, hO⟩⟩) fun v H2 e2 ⟨ls, l, hv, hC, hO⟩ => ?_
    subst hv
    have e02 := e1.trans e2
    have hnl := hC.nat_len
    refine q_asg (ev_mod (hcv 20 _ H2 e02 (by decide) rfl) ev_c (by decide)) fun H3 e3 => ?_
    have e03 := e02.trans e3
    refine q_cut (M := fun σ' H' => ∃ l ls x3, σ' = [some (.ref a), some (.int (n : Int)), some (.ref l), x3, none, none, none, none] ∧ Ex H H' ∧ LP K H' l ls ∧ ls.length ≤ 10) ?_ fun σ' H4 hM => ?_
    · refine s_when (et_test (ev_op (ev_var rfl) ev_c rv_I0)) (fun hb H4 e4 => ?_) (fun _ H4 e4 => ⟨l, ls, _, rfl, e03.trans e4, hO.lp.mono (e3.trans e4), by omega⟩)
      refine sr_asg (R := fun H1 H2 v => ∃ ls p, v = .ref p ∧ ls.length ≤ 10 ∧ OLP K H1 H2 p ls) (fun H5 e5 Q' q' => ?_) fun v H5 e5 ⟨ls', l', hv, hl', hO'⟩ => ?_
      · refine (ea_cons (ev_var (v := .ref l) rfl) (ea_cons (ev_op ev_c (ev_mod (ev_div (hcv 20 _ H4 (e03.trans e4) (by decide) rfl) ev_c (by decide) (by decide)) ev_c (by decide)) rv_I0) (ea_cons (hcv 21 _ H4 (e03.trans e4) (by decide) rfl) (ea_cons (hcv 22 _ H4 (e03.trans e4) (by decide) rfl) ea_nil)))) H5 e5 _ fun H6 e6 => ?_
        exact ⟨l, ls, _, _, _, rfl, hO.lp.mono ((e3.trans e4).trans (e5.trans e6)), by omega, by omega, by omega, by omega, fun ls' H' p e hl hO => q' _ H' (e6.trans e) ⟨ls', p, rfl, hl, hO.back e6⟩⟩
      · subst hv
        exact ⟨l', ls', _, rfl, (e03.trans e4).trans e5, hO'.lp, hl'⟩
    · clear hO hC hnl
      obtain ⟨l, ls, x3, rfl, e04, hLl, hl10⟩ := hM
      refine q_cut (M := fun σ' H' => ∃ c : Int, σ' = [some (.ref a), some (.int c), some (.ref l), x3, none, none, none, none] ∧ Ex H H' ∧ LP K H' l ls) ?_ fun σ' H5 hM => ?_
      · refine s_when (et_test (ev_op (ev_mod (hcv 23 _ H4 e04 (by decide) rfl) ev_c (by decide)) ev_c (rv_eq rfl))) (fun hb H5 e5 => ?_) (fun _ H5 e5 => ⟨n, rfl, e04.trans e5, hLl.mono e5⟩)
        obtain ⟨i, hi, hi6⟩ : ∃ i : Nat, cellV ns 24 % 6 = (i : Int) ∧ i < 6 := ⟨(cellV ns 24 % 6).toNat, by omega, by omega⟩
        obtain ⟨c, hc⟩ : ∃ c : Int, [V.int ((n : Int) + 1), .int ((n : Int) - 1), .int 10, .int 3, .int (10 ^ (29 : Int).toNat), .int 0][i]? = some (.int c) := by
          rcases (show i = 0 ∨ i = 1 ∨ i = 2 ∨ i = 3 ∨ i = 4 ∨ i = 5 by omega) with rfl | rfl | rfl | rfl | rfl | rfl <;> exact ⟨_, rfl⟩
        refine s_asg (ev_menu (i := i) (ea_cons (ev_op (ev_var rfl) ev_c rv_I0) (ea_cons (ev_op (ev_var rfl) ev_c rv_I0) (ea_cons ev_c (ea_cons ev_c (ea_cons (ev_op ev_c ev_c (rv_I (show CPow 10 29 from ⟨by decide, by decide, by decide⟩))) (ea_cons ev_c ea_nil)))))) (by show 6 ≤ 100000; decide) (fun H6 e6 => ev_cast (ev_mod (hcv 24 _ H6 ((e04.trans e5).trans e6) (by decide) rfl) ev_c (by decide)) (by rw [hi])) hc) fun H6 e6 => ⟨c, rfl, (e04.trans e5).trans e6, hLl.mono (e5.trans e6)⟩
      · obtain ⟨c, rfl, e05, hL5⟩ := hM
        obtain ⟨as, hA, hP⟩ := id hL5
        refine q_asgL (el_list (ev_var (v := .ref l) rfl) hA) fun h H6 hh e6 hh6 => ?_
        have hL6 := hL5.mono e6
        have hH6 : LP K H6 h ls := ⟨as, sq_of hh6, paired_mono hP fun _ _ z => z.mono e6⟩
        have hisc : ∀ (x : Addr) (G : Hp), LP K G x ls → SpV (sp_is_cut K) [.int c, .ref x] G (.bl (dec (IsCut c ls))) := fun x G hx G1 g1 Q' q' E' => ⟨c, x, ls, rfl, hx.mono g1, by omega, fun b H' e hb => by rw [dec_eq hb]; exact q' H' e⟩
        refine q_asg (ev_call (z := .bl (dec (IsCut c ls))) (ea_cons (ev_var (v := .int c) rfl) (ea_cons (ev_var (v := .ref h) rfl) ea_nil)) (hisc h H6 hH6)) fun H7 e7 => ?_
        refine q_asg (ev_call (z := .bl (dec (IsCut c ls))) (ea_cons (ev_var (v := .int c) rfl) (ea_cons (ev_var (v := .ref l) rfl) ea_nil)) (hisc l H7 (hL6.mono e7))) fun H8 e8 => ?_
        have e68 := e7.trans e8
        refine q_when (b := false) (et_is (et_or (et_not (et_test (ev_isBool (ev_var rfl)))) fun _ => et_or (et_test (ev_op (ev_var rfl) (ev_var rfl) (rv_ne rfl))) fun _ => et_test (ev_op (ev_var (v := .ref h) rfl) (ev_var (v := .ref l) rfl) (rv_neLP (hH6.mono e68) (hL6.mono e68)))) (by simp)) (fun hb => nomatch hb) (fun _ H9 e9 => ?_)
        have e09 := (e05.trans e6).trans (e68.trans e9)
        refine q_asgU (eu_tup (ea_cons (ev_mod (hcv 25 _ H9 e09 (by decide) rfl) ev_c (by decide)) (ea_cons (ev_mod (hcv 26 _ H9 e09 (by decide) rfl) ev_c (by decide)) ea_nil)) (by show 2 ≤ 100000; decide)) fun x H10 hx e10 hx10 => ?_
        have e610 := (e68.trans e9).trans e10
        have hx : PT K H10 x (cellV ns 25 % 10, cellV ns 26 % 10) := st_of hx10
        generalize (cellV ns 25 % 10, cellV ns 26 % 10) = u at hx
        have hH10 := hH6.mono e610
        have hL10 := hL6.mono e610
        have hmet : ∀ (how wh : Nat) (σ : St) (G : Hp), Ex H10 G → σ[1]? = some (some (.int c)) → σ[4]? = some (some (.ref h)) → σ[7]? = some (some (.ref x)) → (((how = 0 ∨ how = 1) ∧ ¬ IsCut c ls ∧ wh = 3) ∨ (how = 1 ∧ IsCut c ls ∧ u ∉ ls ∧ wh = 1)) →
            Er (tCall (sp__law_met13 K) [] E0 (tCons (tC (.int (how : Int))) (tCons (tVar 1) (tCons (tVar 4) (tCons (tVar 7) tNil))))) σ G (RMet wh) := fun how wh σ G g h1 h4 h7 hcase G1 g1 Q' q' =>
          ea_cons (ev_c (v := .int (how : Int))) (ea_cons (ev_var h1) (ea_cons (ev_var h4) (ea_cons (ev_var h7) ea_nil))) G1 g1 _ fun G2 g2 => ⟨how, c, h, x, ls, u, wh, rfl, hH10.mono ((g.trans g1).trans g2), by omega, hx.mono ((g.trans g1).trans g2), hcase, fun H' p e hp => q' _ H' (g2.trans e) ⟨p, rfl, hp⟩⟩
        refine q_when (b := !dec (IsCut c ls)) (et_not (et_test (ev_var rfl))) (fun hb H11 e11 => ?_) (fun hb H11 e11 => ?_)
        · have hC : ¬ IsCut c ls := of_dec_f (by simpa using hb)
          exact s_ret (v := .bl true) (ev_cast (ev_andV (ev_metEq (i := 3) (hmet 0 3 _ H11 e11 rfl rfl rfl (.inl ⟨.inl rfl, hC, rfl⟩)) (eu_tup (ea_cons ev_c (ea_cons ev_c ea_nil)) (by show 2 ≤ 100000; decide))) fun _ => ev_metEq (i := 3) (hmet 1 3 _ H11 e11 rfl rfl rfl (.inl ⟨.inr rfl, hC, rfl⟩)) (eu_tup (ea_cons ev_c (ea_cons ev_c ea_nil)) (by show 2 ≤ 100000; decide))) rfl) fun H12 e12 => q H12
        · have hC : IsCut c ls := of_dec (by simpa using hb)
          obtain ⟨n', rfl⟩ : ∃ n' : Nat, c = n' := ⟨c.toNat, by have := hC.1; omega⟩
          refine q_when (b := false) (et_is (et_or (et_not (et_test (ev_call (z := .bl true) (ea_cons (ev_var (v := .int (n' : Int)) rfl) (ea_cons (ev_var (v := .ref l) rfl) (ea_cons (ev_var (v := .ref h) rfl) ea_nil))) fun G1 g1 Q' q' E' => ⟨n', l, h, ls, rfl, hL10.mono (e11.trans g1), hH10.mono (e11.trans g1), hC, q'⟩))) fun _ => et_test (ev_op (ev_var (v := .ref h) rfl) (ev_var (v := .ref l) rfl) (rv_neLP (hH10.mono e11) (hL10.mono e11)))) (by simp)) (fun hb => nomatch hb) (fun _ H12 e12 => ?_)
          have e1012 := e11.trans e12
          refine s_ret (v := .bl true) (ev_cast (ev_orV (b := true) (ev_op (ev_var (v := .ref x) rfl) (ev_var (v := .ref l) rfl) (rv_inP (hx.mono e1012) (hL10.mono e1012))) fun hm => ev_metEq (i := 1) (hmet 1 1 _ H12 e1012 rfl rfl rfl (.inr ⟨rfl, hC, by simpa using hm, rfl⟩)) (eu_tup (ea_cons ev_c (ea_cons ev_c ea_nil)) (by show 2 ≤ 100000; decide))) (by simp)) fun H13 e13 => q H13
end
section
variable {P : Program} {w : World} {K : Frag} {mg : Str → Option Value} {base : Heap}
abbrev LEVEL : Nat := 12
theorem law_ok (T : Txt K mg) : FnOk P w K mg base CX0 LEVEL T.f_law T.d_law ["script"] (sp_law K) := by
  have g1 := ok_line_right (P := P) (w := w) (base := base) (k := 0) T
  have g2 := ok_crossing (P := P) (w := w) (base := base) (k := 0) T
  have g3 := ok_is_cut T g1 g2
  have g4 := ok_must_cut T g3
  have g5 := ok_is_side (P := P) (w := w) (base := base) (k := 0) T
  have g6 := ok_triangles T g5
  have g7 := ok_form_by T g6
  have g8 := ok_form_of (k := 3) T g4 g7
  have g9 := ok_cut_turned (k := 3) T g4 (g6.mono (by decide))
  have h1 := ok__law_line (P := P) (w := w) (base := base) (k := 0) T
  have h2 := ok__law_cross (P := P) (w := w) (base := base) (k := 0) T
  have h3 := ok__law_is_cut T h1 h2
  have h4 := ok__law_parts (P := P) (w := w) (base := base) (k := 0) T
  have h5 := ok__law_form_of T h4
  have h6 := ok__law_cell (P := P) (w := w) (base := base) (k := 0) T
  have h7 := ok__law_cut T h6
  have h8 := ok__law_hurt (P := P) (w := w) (base := base) (k := 0) T
  have h9 := ok__law_which (P := P) (w := w) (base := base) (k := 3) T
  have h10 := ok__law_met13 (k := 4) T g8 g9 h9
  have h11 := ok__law_like (P := P) (w := w) (base := base) (k := 0) T
  have h12 := ok__law_told13 (k := 4) T (h5.mono (by decide)) (g8.mono (by decide)) (h11.mono (by decide)) (h4.mono (by decide)) (g9.mono (by decide))
  exact (ok_law (k := 6) T (h6.mono (by decide)) (h7.mono (by decide)) (h8.mono (by decide)) (g3.mono (by decide)) (h3.mono (by decide)) (h10.mono (by decide)) (h12.mono (by decide))).mono (by decide)
end
end AT

/-! ### what the top has written; the end -/
namespace AT
open PySem PySem.Spec PyProof.Rows L2 Evl
theorem all_mk {l : PySem.W.OpenLaw} {w : World} {K : Frag} {h : Heap} {mg : Str → Option Value} {fa : Addr} (X : K.In h) (G : h.Ns mainGlobals mg) (hfa : mg "law" = some (.ref fa))
    {f_line_right : Addr} {od_line_right an_line_right : Option Addr} {sl_line_right : Array (Option Value)} {oc_line_right kV_line_right dc_line_right pm_line_right cd_line_right ct_line_right : Value}
    {f_crossing : Addr} {od_crossing an_crossing : Option Addr} {sl_crossing : Array (Option Value)} {oc_crossing kV_crossing dc_crossing pm_crossing cd_crossing ct_crossing : Value}
    {f_is_cut : Addr} {od_is_cut an_is_cut : Option Addr} {sl_is_cut : Array (Option Value)} {oc_is_cut kV_is_cut dc_is_cut pm_is_cut cd_is_cut ct_is_cut : Value}
    {f_must_cut : Addr} {od_must_cut an_must_cut : Option Addr} {sl_must_cut : Array (Option Value)} {oc_must_cut kV_must_cut dc_must_cut pm_must_cut cd_must_cut ct_must_cut : Value}
    {f_is_side : Addr} {od_is_side an_is_side : Option Addr} {sl_is_side : Array (Option Value)} {oc_is_side kV_is_side dc_is_side pm_is_side cd_is_side ct_is_side : Value}
    {f_triangles : Addr} {od_triangles an_triangles : Option Addr} {sl_triangles : Array (Option Value)} {oc_triangles kV_triangles dc_triangles pm_triangles cd_triangles ct_triangles : Value}
    {f_form_by : Addr} {od_form_by an_form_by : Option Addr} {sl_form_by : Array (Option Value)} {oc_form_by kV_form_by dc_form_by pm_form_by cd_form_by ct_form_by : Value}
    {f_form_of : Addr} {od_form_of an_form_of : Option Addr} {sl_form_of : Array (Option Value)} {oc_form_of kV_form_of dc_form_of pm_form_of cd_form_of ct_form_of : Value}
    {f_cut_turned : Addr} {od_cut_turned an_cut_turned : Option Addr} {sl_cut_turned : Array (Option Value)} {oc_cut_turned kV_cut_turned dc_cut_turned pm_cut_turned cd_cut_turned ct_cut_turned : Value}
    {f__law_cell : Addr} {od__law_cell an__law_cell : Option Addr} {sl__law_cell : Array (Option Value)} {oc__law_cell kV__law_cell dc__law_cell pm__law_cell cd__law_cell ct__law_cell : Value}
    {f__law_like : Addr} {od__law_like an__law_like : Option Addr} {sl__law_like : Array (Option Value)} {oc__law_like kV__law_like dc__law_like pm__law_like cd__law_like ct__law_like : Value}
    {f__law_line : Addr} {od__law_line an__law_line : Option Addr} {sl__law_line : Array (Option Value)} {oc__law_line kV__law_line dc__law_line pm__law_line cd__law_line ct__law_line : Value}
    {f__law_cross : Addr} {od__law_cross an__law_cross : Option Addr} {sl__law_cross : Array (Option Value)} {oc__law_cross kV__law_cross dc__law_cross pm__law_cross cd__law_cross ct__law_cross : Value}
    {f__law_is_cut : Addr} {od__law_is_cut an__law_is_cut : Option Addr} {sl__law_is_cut : Array (Option Value)} {oc__law_is_cut kV__law_is_cut dc__law_is_cut pm__law_is_cut cd__law_is_cut ct__law_is_cut : Value}
    {f__law_cut : Addr} {od__law_cut an__law_cut : Option Addr} {sl__law_cut : Array (Option Value)} {oc__law_cut kV__law_cut dc__law_cut pm__law_cut cd__law_cut ct__law_cut : Value}
    {f__law_parts : Addr} {od__law_parts an__law_parts : Option Addr} {sl__law_parts : Array (Option Value)} {oc__law_parts kV__law_parts dc__law_parts pm__law_parts cd__law_parts ct__law_parts : Value}
    {f__law_form_of : Addr} {od__law_form_of an__law_form_of : Option Addr} {sl__law_form_of : Array (Option Value)} {oc__law_form_of kV__law_form_of dc__law_form_of pm__law_form_of cd__law_form_of ct__law_form_of : Value}
    {f__law_which : Addr} {od__law_which an__law_which : Option Addr} {sl__law_which : Array (Option Value)} {oc__law_which kV__law_which dc__law_which pm__law_which cd__law_which ct__law_which : Value}
    {f__law_hurt : Addr} {od__law_hurt an__law_hurt : Option Addr} {sl__law_hurt : Array (Option Value)} {oc__law_hurt kV__law_hurt dc__law_hurt pm__law_hurt cd__law_hurt ct__law_hurt : Value}
    {f__law_met : Addr} {od__law_met an__law_met : Option Addr} {sl__law_met : Array (Option Value)} {oc__law_met kV__law_met dc__law_met pm__law_met cd__law_met ct__law_met : Value}
    {f__law_told : Addr} {od__law_told an__law_told : Option Addr} {sl__law_told : Array (Option Value)} {oc__law_told kV__law_told dc__law_told pm__law_told cd__law_told ct__law_told : Value}
    {f_law : Addr} {od_law an_law : Option Addr} {sl_law : Array (Option Value)} {oc_law kV_law dc_law pm_law cd_law ct_law : Value}
    {t_MOST_CORNERS : Tok}
    {c_TurnError : Addr}
    {c_NoForm : Addr}
    {c_NoBox : Addr}
    {c_NoNames : Addr}
    {c_NoCut : Addr}
    {c_TooMany : Addr}
    (a_line_right : PySem.W.nsIn K mainGlobals "line_right" = some (some (.ref f_line_right))) (l_line_right : K.lookup f_line_right = some ⟨oc_line_right, od_line_right, .func (PySem.W.fnOf "line_right" "line_right" (defArgs s_line_right) (defBody s_line_right) (defScope s_line_right) .none kV_line_right dc_line_right pm_line_right an_line_right cd_line_right ct_line_right), sl_line_right⟩) (c_line_right : PySem.W.codeIn K cd_line_right "line_right" = true) (k_line_right : PySem.W.keepIn K (.ref f_line_right) = true)
    (a_crossing : PySem.W.nsIn K mainGlobals "crossing" = some (some (.ref f_crossing))) (l_crossing : K.lookup f_crossing = some ⟨oc_crossing, od_crossing, .func (PySem.W.fnOf "crossing" "crossing" (defArgs s_crossing) (defBody s_crossing) (defScope s_crossing) .none kV_crossing dc_crossing pm_crossing an_crossing cd_crossing ct_crossing), sl_crossing⟩) (c_crossing : PySem.W.codeIn K cd_crossing "crossing" = true) (k_crossing : PySem.W.keepIn K (.ref f_crossing) = true)
    (a_is_cut : PySem.W.nsIn K mainGlobals "is_cut" = some (some (.ref f_is_cut))) (l_is_cut : K.lookup f_is_cut = some ⟨oc_is_cut, od_is_cut, .func (PySem.W.fnOf "is_cut" "is_cut" (defArgs s_is_cut) (defBody s_is_cut) (defScope s_is_cut) .none kV_is_cut dc_is_cut pm_is_cut an_is_cut cd_is_cut ct_is_cut), sl_is_cut⟩) (c_is_cut : PySem.W.codeIn K cd_is_cut "is_cut" = true) (k_is_cut : PySem.W.keepIn K (.ref f_is_cut) = true)
    (a_must_cut : PySem.W.nsIn K mainGlobals "must_cut" = some (some (.ref f_must_cut))) (l_must_cut : K.lookup f_must_cut = some ⟨oc_must_cut, od_must_cut, .func (PySem.W.fnOf "must_cut" "must_cut" (defArgs s_must_cut) (defBody s_must_cut) (defScope s_must_cut) .none kV_must_cut dc_must_cut pm_must_cut an_must_cut cd_must_cut ct_must_cut), sl_must_cut⟩) (c_must_cut : PySem.W.codeIn K cd_must_cut "must_cut" = true) (k_must_cut : PySem.W.keepIn K (.ref f_must_cut) = true)
    (a_is_side : PySem.W.nsIn K mainGlobals "is_side" = some (some (.ref f_is_side))) (l_is_side : K.lookup f_is_side = some ⟨oc_is_side, od_is_side, .func (PySem.W.fnOf "is_side" "is_side" (defArgs s_is_side) (defBody s_is_side) (defScope s_is_side) .none kV_is_side dc_is_side pm_is_side an_is_side cd_is_side ct_is_side), sl_is_side⟩) (c_is_side : PySem.W.codeIn K cd_is_side "is_side" = true) (k_is_side : PySem.W.keepIn K (.ref f_is_side) = true)
    (a_triangles : PySem.W.nsIn K mainGlobals "triangles" = some (some (.ref f_triangles))) (l_triangles : K.lookup f_triangles = some ⟨oc_triangles, od_triangles, .func (PySem.W.fnOf "triangles" "triangles" (defArgs s_triangles) (defBody s_triangles) (defScope s_triangles) .none kV_triangles dc_triangles pm_triangles an_triangles cd_triangles ct_triangles), sl_triangles⟩) (c_triangles : PySem.W.codeIn K cd_triangles "triangles" = true) (k_triangles : PySem.W.keepIn K (.ref f_triangles) = true)
    (a_form_by : PySem.W.nsIn K mainGlobals "form_by" = some (some (.ref f_form_by))) (l_form_by : K.lookup f_form_by = some ⟨oc_form_by, od_form_by, .func (PySem.W.fnOf "form_by" "form_by" (defArgs s_form_by) (defBody s_form_by) (defScope s_form_by) .none kV_form_by dc_form_by pm_form_by an_form_by cd_form_by ct_form_by), sl_form_by⟩) (c_form_by : PySem.W.codeIn K cd_form_by "form_by" = true) (k_form_by : PySem.W.keepIn K (.ref f_form_by) = true)
    (a_form_of : PySem.W.nsIn K mainGlobals "form_of" = some (some (.ref f_form_of))) (l_form_of : K.lookup f_form_of = some ⟨oc_form_of, od_form_of, .func (PySem.W.fnOf "form_of" "form_of" (defArgs s_form_of) (defBody s_form_of) (defScope s_form_of) .none kV_form_of dc_form_of pm_form_of an_form_of cd_form_of ct_form_of), sl_form_of⟩) (c_form_of : PySem.W.codeIn K cd_form_of "form_of" = true) (k_form_of : PySem.W.keepIn K (.ref f_form_of) = true)
    (a_cut_turned : PySem.W.nsIn K mainGlobals "cut_turned" = some (some (.ref f_cut_turned))) (l_cut_turned : K.lookup f_cut_turned = some ⟨oc_cut_turned, od_cut_turned, .func (PySem.W.fnOf "cut_turned" "cut_turned" (defArgs s_cut_turned) (defBody s_cut_turned) (defScope s_cut_turned) .none kV_cut_turned dc_cut_turned pm_cut_turned an_cut_turned cd_cut_turned ct_cut_turned), sl_cut_turned⟩) (c_cut_turned : PySem.W.codeIn K cd_cut_turned "cut_turned" = true) (k_cut_turned : PySem.W.keepIn K (.ref f_cut_turned) = true)
    (a__law_cell : PySem.W.nsIn K mainGlobals "_law_cell" = some (some (.ref f__law_cell))) (l__law_cell : K.lookup f__law_cell = some ⟨oc__law_cell, od__law_cell, .func (PySem.W.fnOf "_law_cell" "_law_cell" (defArgs s__law_cell) (defBody s__law_cell) (defScope s__law_cell) .none kV__law_cell dc__law_cell pm__law_cell an__law_cell cd__law_cell ct__law_cell), sl__law_cell⟩) (c__law_cell : PySem.W.codeIn K cd__law_cell "_law_cell" = true) (k__law_cell : PySem.W.keepIn K (.ref f__law_cell) = true)
    (a__law_like : PySem.W.nsIn K mainGlobals "_law_like" = some (some (.ref f__law_like))) (l__law_like : K.lookup f__law_like = some ⟨oc__law_like, od__law_like, .func (PySem.W.fnOf "_law_like" "_law_like" (defArgs s__law_like) (defBody s__law_like) (defScope s__law_like) .none kV__law_like dc__law_like pm__law_like an__law_like cd__law_like ct__law_like), sl__law_like⟩) (c__law_like : PySem.W.codeIn K cd__law_like "_law_like" = true) (k__law_like : PySem.W.keepIn K (.ref f__law_like) = true)
    (a__law_line : PySem.W.nsIn K mainGlobals "_law_line" = some (some (.ref f__law_line))) (l__law_line : K.lookup f__law_line = some ⟨oc__law_line, od__law_line, .func (PySem.W.fnOf "_law_line" "_law_line" (defArgs s__law_line) (defBody s__law_line) (defScope s__law_line) .none kV__law_line dc__law_line pm__law_line an__law_line cd__law_line ct__law_line), sl__law_line⟩) (c__law_line : PySem.W.codeIn K cd__law_line "_law_line" = true) (k__law_line : PySem.W.keepIn K (.ref f__law_line) = true)
    (a__law_cross : PySem.W.nsIn K mainGlobals "_law_cross" = some (some (.ref f__law_cross))) (l__law_cross : K.lookup f__law_cross = some ⟨oc__law_cross, od__law_cross, .func (PySem.W.fnOf "_law_cross" "_law_cross" (defArgs s__law_cross) (defBody s__law_cross) (defScope s__law_cross) .none kV__law_cross dc__law_cross pm__law_cross an__law_cross cd__law_cross ct__law_cross), sl__law_cross⟩) (c__law_cross : PySem.W.codeIn K cd__law_cross "_law_cross" = true) (k__law_cross : PySem.W.keepIn K (.ref f__law_cross) = true)
    (a__law_is_cut : PySem.W.nsIn K mainGlobals "_law_is_cut" = some (some (.ref f__law_is_cut))) (l__law_is_cut : K.lookup f__law_is_cut = some ⟨oc__law_is_cut, od__law_is_cut, .func (PySem.W.fnOf "_law_is_cut" "_law_is_cut" (defArgs s__law_is_cut) (defBody s__law_is_cut) (defScope s__law_is_cut) .none kV__law_is_cut dc__law_is_cut pm__law_is_cut an__law_is_cut cd__law_is_cut ct__law_is_cut), sl__law_is_cut⟩) (c__law_is_cut : PySem.W.codeIn K cd__law_is_cut "_law_is_cut" = true) (k__law_is_cut : PySem.W.keepIn K (.ref f__law_is_cut) = true)
    (a__law_cut : PySem.W.nsIn K mainGlobals "_law_cut" = some (some (.ref f__law_cut))) (l__law_cut : K.lookup f__law_cut = some ⟨oc__law_cut, od__law_cut, .func (PySem.W.fnOf "_law_cut" "_law_cut" (defArgs s__law_cut) (defBody s__law_cut) (defScope s__law_cut) .none kV__law_cut dc__law_cut pm__law_cut an__law_cut cd__law_cut ct__law_cut), sl__law_cut⟩) (c__law_cut : PySem.W.codeIn K cd__law_cut "_law_cut" = true) (k__law_cut : PySem.W.keepIn K (.ref f__law_cut) = true)
    (a__law_parts : PySem.W.nsIn K mainGlobals "_law_parts" = some (some (.ref f__law_parts))) (l__law_parts : K.lookup f__law_parts = some ⟨oc__law_parts, od__law_parts, .func (PySem.W.fnOf "_law_parts" "_law_parts" (defArgs s__law_parts) (defBody s__law_parts) (defScope s__law_parts) .none kV__law_parts dc__law_parts pm__law_parts an__law_parts cd__law_parts ct__law_parts), sl__law_parts⟩) (c__law_parts : PySem.W.codeIn K cd__law_parts "_law_parts" = true) (k__law_parts : PySem.W.keepIn K (.ref f__law_parts) = true)
    (a__law_form_of : PySem.W.nsIn K mainGlobals "_law_form_of" = some (some (.ref f__law_form_of))) (l__law_form_of : K.lookup f__law_form_of = some ⟨oc__law_form_of, od__law_form_of, .func (PySem.W.fnOf "_law_form_of" "_law_form_of" (defArgs s__law_form_of) (defBody s__law_form_of) (defScope s__law_form_of) .none kV__law_form_of dc__law_form_of pm__law_form_of an__law_form_of cd__law_form_of ct__law_form_of), sl__law_form_of⟩) (c__law_form_of : PySem.W.codeIn K cd__law_form_of "_law_form_of" = true) (k__law_form_of : PySem.W.keepIn K (.ref f__law_form_of) = true)
    (a__law_which : PySem.W.nsIn K mainGlobals "_law_which" = some (some (.ref f__law_which))) (l__law_which : K.lookup f__law_which = some ⟨oc__law_which, od__law_which, .func (PySem.W.fnOf "_law_which" "_law_which" (defArgs s__law_which) (defBody s__law_which) (defScope s__law_which) .none kV__law_which dc__law_which pm__law_which an__law_which cd__law_which ct__law_which), sl__law_which⟩) (c__law_which : PySem.W.codeIn K cd__law_which "_law_which" = true) (k__law_which : PySem.W.keepIn K (.ref f__law_which) = true)
    (a__law_hurt : PySem.W.nsIn K mainGlobals "_law_hurt" = some (some (.ref f__law_hurt))) (l__law_hurt : K.lookup f__law_hurt = some ⟨oc__law_hurt, od__law_hurt, .func (PySem.W.fnOf "_law_hurt" "_law_hurt" (defArgs s__law_hurt) (defBody s__law_hurt) (defScope s__law_hurt) .none kV__law_hurt dc__law_hurt pm__law_hurt an__law_hurt cd__law_hurt ct__law_hurt), sl__law_hurt⟩) (c__law_hurt : PySem.W.codeIn K cd__law_hurt "_law_hurt" = true) (k__law_hurt : PySem.W.keepIn K (.ref f__law_hurt) = true)
    (a__law_met : PySem.W.nsIn K mainGlobals "_law_met" = some (some (.ref f__law_met))) (l__law_met : K.lookup f__law_met = some ⟨oc__law_met, od__law_met, .func (PySem.W.fnOf "_law_met" "_law_met" (defArgs s__law_met) (defBody s__law_met) (defScope s__law_met) .none kV__law_met dc__law_met pm__law_met an__law_met cd__law_met ct__law_met), sl__law_met⟩) (c__law_met : PySem.W.codeIn K cd__law_met "_law_met" = true) (k__law_met : PySem.W.keepIn K (.ref f__law_met) = true)
    (a__law_told : PySem.W.nsIn K mainGlobals "_law_told" = some (some (.ref f__law_told))) (l__law_told : K.lookup f__law_told = some ⟨oc__law_told, od__law_told, .func (PySem.W.fnOf "_law_told" "_law_told" (defArgs s__law_told) (defBody s__law_told) (defScope s__law_told) .none kV__law_told dc__law_told pm__law_told an__law_told cd__law_told ct__law_told), sl__law_told⟩) (c__law_told : PySem.W.codeIn K cd__law_told "_law_told" = true) (k__law_told : PySem.W.keepIn K (.ref f__law_told) = true)
    (a_law : PySem.W.nsIn K mainGlobals "law" = some (some (.ref f_law))) (l_law : K.lookup f_law = some ⟨oc_law, od_law, .func (PySem.W.fnOf "law" "law" (defArgs s_law) (defBody s_law) (defScope s_law) .none kV_law dc_law pm_law an_law cd_law ct_law), sl_law⟩) (c_law : PySem.W.codeIn K cd_law "law" = true) (k_law : PySem.W.keepIn K (.ref f_law) = true)
    (m_MOST_CORNERS : PySem.W.nsIn K mainGlobals "MOST_CORNERS" = some (some (.int 9 t_MOST_CORNERS)))
    (g_TurnError : PySem.W.nsIn K mainGlobals "TurnError" = some (some (.ref c_TurnError)))
    (xxn_TurnError : PySem.W.excIn K c_TurnError [.type "ValueError", .type "Exception", .type "BaseException", .type "object"] "ValueError.__new__" = true)
    (xkp_TurnError : PySem.W.keepIn K (.ref c_TurnError) = true)
    (xbs_TurnError : PySem.W.subIn K (.ref c_TurnError) (.type "BaseException") = some true)
    (xty_TurnError : PySem.W.typeIn K (.ref c_TurnError) = some (.type "type"))
    (xic_TurnError : PySem.W.isClsIn K c_TurnError = true)
    (xhg_TurnError : PySem.W.findIn K (.ref c_TurnError) "__getattribute__" = some (some (.builtin "BaseException.__getattribute__")))
    (xhk_TurnError : PySem.W.findIn K (.ref c_TurnError) "__getattr__" = some none)
    (xhd_TurnError : PySem.W.hasDictIn K c_TurnError = true)
    (xha_TurnError : PySem.W.findIn K (.ref c_TurnError) "__class__" = some (some (.builtin "object.__class__")))
    (xhn_TurnError : PySem.W.specialIn K (.builtin "object.__class__") "__get__" = some (some (.builtin "getset_descriptor.__get__")))
    (xht_TurnError : PySem.W.takesIn K (.builtin "object.__class__") = some true)
    (xhm_TurnError : PySem.W.mroIn K c_TurnError (.type "object") = some true)
    (xvs_TurnError : PySem.W.subIn K (.ref c_TurnError) (.type "ValueError") = some true)
    (g_NoForm : PySem.W.nsIn K mainGlobals "NoForm" = some (some (.ref c_NoForm)))
    (xxn_NoForm : PySem.W.excIn K c_NoForm [.type "ValueError", .type "Exception", .type "BaseException", .type "object"] "ValueError.__new__" = true)
    (xkp_NoForm : PySem.W.keepIn K (.ref c_NoForm) = true)
    (xbs_NoForm : PySem.W.subIn K (.ref c_NoForm) (.type "BaseException") = some true)
    (xty_NoForm : PySem.W.typeIn K (.ref c_NoForm) = some (.type "type"))
    (xic_NoForm : PySem.W.isClsIn K c_NoForm = true)
    (xhg_NoForm : PySem.W.findIn K (.ref c_NoForm) "__getattribute__" = some (some (.builtin "BaseException.__getattribute__")))
    (xhk_NoForm : PySem.W.findIn K (.ref c_NoForm) "__getattr__" = some none)
    (xhd_NoForm : PySem.W.hasDictIn K c_NoForm = true)
    (xha_NoForm : PySem.W.findIn K (.ref c_NoForm) "__class__" = some (some (.builtin "object.__class__")))
    (xhn_NoForm : PySem.W.specialIn K (.builtin "object.__class__") "__get__" = some (some (.builtin "getset_descriptor.__get__")))
    (xht_NoForm : PySem.W.takesIn K (.builtin "object.__class__") = some true)
    (xhm_NoForm : PySem.W.mroIn K c_NoForm (.type "object") = some true)
    (xvs_NoForm : PySem.W.subIn K (.ref c_NoForm) (.type "ValueError") = some true)
    (g_NoBox : PySem.W.nsIn K mainGlobals "NoBox" = some (some (.ref c_NoBox)))
    (xxn_NoBox : PySem.W.excIn K c_NoBox [.type "ValueError", .type "Exception", .type "BaseException", .type "object"] "ValueError.__new__" = true)
    (xkp_NoBox : PySem.W.keepIn K (.ref c_NoBox) = true)
    (xbs_NoBox : PySem.W.subIn K (.ref c_NoBox) (.type "BaseException") = some true)
    (xty_NoBox : PySem.W.typeIn K (.ref c_NoBox) = some (.type "type"))
    (xic_NoBox : PySem.W.isClsIn K c_NoBox = true)
    (xhg_NoBox : PySem.W.findIn K (.ref c_NoBox) "__getattribute__" = some (some (.builtin "BaseException.__getattribute__")))
    (xhk_NoBox : PySem.W.findIn K (.ref c_NoBox) "__getattr__" = some none)
    (xhd_NoBox : PySem.W.hasDictIn K c_NoBox = true)
    (xha_NoBox : PySem.W.findIn K (.ref c_NoBox) "__class__" = some (some (.builtin "object.__class__")))
    (xhn_NoBox : PySem.W.specialIn K (.builtin "object.__class__") "__get__" = some (some (.builtin "getset_descriptor.__get__")))
    (xht_NoBox : PySem.W.takesIn K (.builtin "object.__class__") = some true)
    (xhm_NoBox : PySem.W.mroIn K c_NoBox (.type "object") = some true)
    (xvs_NoBox : PySem.W.subIn K (.ref c_NoBox) (.type "ValueError") = some true)
    (g_NoNames : PySem.W.nsIn K mainGlobals "NoNames" = some (some (.ref c_NoNames)))
    (xxn_NoNames : PySem.W.excIn K c_NoNames [.type "ValueError", .type "Exception", .type "BaseException", .type "object"] "ValueError.__new__" = true)
    (xkp_NoNames : PySem.W.keepIn K (.ref c_NoNames) = true)
    (xbs_NoNames : PySem.W.subIn K (.ref c_NoNames) (.type "BaseException") = some true)
    (xty_NoNames : PySem.W.typeIn K (.ref c_NoNames) = some (.type "type"))
    (xic_NoNames : PySem.W.isClsIn K c_NoNames = true)
    (xhg_NoNames : PySem.W.findIn K (.ref c_NoNames) "__getattribute__" = some (some (.builtin "BaseException.__getattribute__")))
    (xhk_NoNames : PySem.W.findIn K (.ref c_NoNames) "__getattr__" = some none)
    (xhd_NoNames : PySem.W.hasDictIn K c_NoNames = true)
    (xha_NoNames : PySem.W.findIn K (.ref c_NoNames) "__class__" = some (some (.builtin "object.__class__")))
    (xhn_NoNames : PySem.W.specialIn K (.builtin "object.__class__") "__get__" = some (some (.builtin "getset_descriptor.__get__")))
    (xht_NoNames : PySem.W.takesIn K (.builtin "object.__class__") = some true)
    (xhm_NoNames : PySem.W.mroIn K c_NoNames (.type "object") = some true)
    (xvs_NoNames : PySem.W.subIn K (.ref c_NoNames) (.type "ValueError") = some true)
    (g_NoCut : PySem.W.nsIn K mainGlobals "NoCut" = some (some (.ref c_NoCut)))
    (xxn_NoCut : PySem.W.excIn K c_NoCut [.type "ValueError", .type "Exception", .type "BaseException", .type "object"] "ValueError.__new__" = true)
    (xkp_NoCut : PySem.W.keepIn K (.ref c_NoCut) = true)
    (xbs_NoCut : PySem.W.subIn K (.ref c_NoCut) (.type "BaseException") = some true)
    (xty_NoCut : PySem.W.typeIn K (.ref c_NoCut) = some (.type "type"))
    (xic_NoCut : PySem.W.isClsIn K c_NoCut = true)
    (xhg_NoCut : PySem.W.findIn K (.ref c_NoCut) "__getattribute__" = some (some (.builtin "BaseException.__getattribute__")))
    (xhk_NoCut : PySem.W.findIn K (.ref c_NoCut) "__getattr__" = some none)
    (xhd_NoCut : PySem.W.hasDictIn K c_NoCut = true)
    (xha_NoCut : PySem.W.findIn K (.ref c_NoCut) "__class__" = some (some (.builtin "object.__class__")))
    (xhn_NoCut : PySem.W.specialIn K (.builtin "object.__class__") "__get__" = some (some (.builtin "getset_descriptor.__get__")))
    (xht_NoCut : PySem.W.takesIn K (.builtin "object.__class__") = some true)
    (xhm_NoCut : PySem.W.mroIn K c_NoCut (.type "object") = some true)
    (xvs_NoCut : PySem.W.subIn K (.ref c_NoCut) (.type "ValueError") = some true)
    (g_TooMany : PySem.W.nsIn K mainGlobals "TooMany" = some (some (.ref c_TooMany)))
    (xxn_TooMany : PySem.W.excIn K c_TooMany [.type "ValueError", .type "Exception", .type "BaseException", .type "object"] "ValueError.__new__" = true)
    (xkp_TooMany : PySem.W.keepIn K (.ref c_TooMany) = true)
    (xbs_TooMany : PySem.W.subIn K (.ref c_TooMany) (.type "BaseException") = some true)
    (xty_TooMany : PySem.W.typeIn K (.ref c_TooMany) = some (.type "type"))
    (xic_TooMany : PySem.W.isClsIn K c_TooMany = true)
    (xhg_TooMany : PySem.W.findIn K (.ref c_TooMany) "__getattribute__" = some (some (.builtin "BaseException.__getattribute__")))
    (xhk_TooMany : PySem.W.findIn K (.ref c_TooMany) "__getattr__" = some none)
    (xhd_TooMany : PySem.W.hasDictIn K c_TooMany = true)
    (xha_TooMany : PySem.W.findIn K (.ref c_TooMany) "__class__" = some (some (.builtin "object.__class__")))
    (xhn_TooMany : PySem.W.specialIn K (.builtin "object.__class__") "__get__" = some (some (.builtin "getset_descriptor.__get__")))
    (xht_TooMany : PySem.W.takesIn K (.builtin "object.__class__") = some true)
    (xhm_TooMany : PySem.W.mroIn K c_TooMany (.type "object") = some true)
    (xvs_TooMany : PySem.W.subIn K (.ref c_TooMany) (.type "ValueError") = some true)
    (u_TurnError_TurnError : PySem.W.subIn K (.ref c_TurnError) (.ref c_TurnError) = some true)
    (u_TurnError_NoForm : PySem.W.subIn K (.ref c_TurnError) (.ref c_NoForm) = some false)
    (u_TurnError_NoBox : PySem.W.subIn K (.ref c_TurnError) (.ref c_NoBox) = some false)
    (u_TurnError_NoNames : PySem.W.subIn K (.ref c_TurnError) (.ref c_NoNames) = some false)
    (u_TurnError_NoCut : PySem.W.subIn K (.ref c_TurnError) (.ref c_NoCut) = some false)
    (u_TurnError_TooMany : PySem.W.subIn K (.ref c_TurnError) (.ref c_TooMany) = some false)
    (u_NoForm_TurnError : PySem.W.subIn K (.ref c_NoForm) (.ref c_TurnError) = some true)
    (u_NoForm_NoForm : PySem.W.subIn K (.ref c_NoForm) (.ref c_NoForm) = some true)
    (u_NoForm_NoBox : PySem.W.subIn K (.ref c_NoForm) (.ref c_NoBox) = some false)
    (u_NoForm_NoNames : PySem.W.subIn K (.ref c_NoForm) (.ref c_NoNames) = some false)
    (u_NoForm_NoCut : PySem.W.subIn K (.ref c_NoForm) (.ref c_NoCut) = some false)
    (u_NoForm_TooMany : PySem.W.subIn K (.ref c_NoForm) (.ref c_TooMany) = some false)
    (u_NoBox_TurnError : PySem.W.subIn K (.ref c_NoBox) (.ref c_TurnError) = some true)
    (u_NoBox_NoForm : PySem.W.subIn K (.ref c_NoBox) (.ref c_NoForm) = some false)
    (u_NoBox_NoBox : PySem.W.subIn K (.ref c_NoBox) (.ref c_NoBox) = some true)
    (u_NoBox_NoNames : PySem.W.subIn K (.ref c_NoBox) (.ref c_NoNames) = some false)
    (u_NoBox_NoCut : PySem.W.subIn K (.ref c_NoBox) (.ref c_NoCut) = some false)
    (u_NoBox_TooMany : PySem.W.subIn K (.ref c_NoBox) (.ref c_TooMany) = some false)
    (u_NoNames_TurnError : PySem.W.subIn K (.ref c_NoNames) (.ref c_TurnError) = some true)
    (u_NoNames_NoForm : PySem.W.subIn K (.ref c_NoNames) (.ref c_NoForm) = some false)
    (u_NoNames_NoBox : PySem.W.subIn K (.ref c_NoNames) (.ref c_NoBox) = some false)
    (u_NoNames_NoNames : PySem.W.subIn K (.ref c_NoNames) (.ref c_NoNames) = some true)
    (u_NoNames_NoCut : PySem.W.subIn K (.ref c_NoNames) (.ref c_NoCut) = some false)
    (u_NoNames_TooMany : PySem.W.subIn K (.ref c_NoNames) (.ref c_TooMany) = some false)
    (u_NoCut_TurnError : PySem.W.subIn K (.ref c_NoCut) (.ref c_TurnError) = some true)
    (u_NoCut_NoForm : PySem.W.subIn K (.ref c_NoCut) (.ref c_NoForm) = some false)
    (u_NoCut_NoBox : PySem.W.subIn K (.ref c_NoCut) (.ref c_NoBox) = some false)
    (u_NoCut_NoNames : PySem.W.subIn K (.ref c_NoCut) (.ref c_NoNames) = some false)
    (u_NoCut_NoCut : PySem.W.subIn K (.ref c_NoCut) (.ref c_NoCut) = some true)
    (u_NoCut_TooMany : PySem.W.subIn K (.ref c_NoCut) (.ref c_TooMany) = some false)
    (u_TooMany_TurnError : PySem.W.subIn K (.ref c_TooMany) (.ref c_TurnError) = some true)
    (u_TooMany_NoForm : PySem.W.subIn K (.ref c_TooMany) (.ref c_NoForm) = some false)
    (u_TooMany_NoBox : PySem.W.subIn K (.ref c_TooMany) (.ref c_NoBox) = some false)
    (u_TooMany_NoNames : PySem.W.subIn K (.ref c_TooMany) (.ref c_NoNames) = some false)
    (u_TooMany_NoCut : PySem.W.subIn K (.ref c_TooMany) (.ref c_NoCut) = some false)
    (u_TooMany_TooMany : PySem.W.subIn K (.ref c_TooMany) (.ref c_TooMany) = some true)
    (b_len : PySem.W.nsIn K mainGlobals "len" = some none)
    (b_range : PySem.W.nsIn K mainGlobals "range" = some none)
    (b_sum : PySem.W.nsIn K mainGlobals "sum" = some none)
    (b_sorted : PySem.W.nsIn K mainGlobals "sorted" = some none)
    (b_max : PySem.W.nsIn K mainGlobals "max" = some none)
    (b_min : PySem.W.nsIn K mainGlobals "min" = some none)
    (b_isinstance : PySem.W.nsIn K mainGlobals "isinstance" = some none)
    (b_list : PySem.W.nsIn K mainGlobals "list" = some none)
    (b_zip : PySem.W.nsIn K mainGlobals "zip" = some none)
    (b_bool : PySem.W.nsIn K mainGlobals "bool" = some none)
    (b_int : PySem.W.nsIn K mainGlobals "int" = some none)
    (b_ValueError : PySem.W.nsIn K mainGlobals "ValueError" = some none)
    (b_all : PySem.W.nsIn K mainGlobals "all" = some none)
    (b_tuple : PySem.W.nsIn K mainGlobals "tuple" = some none)
    : ∃ fd : FuncData, (∀ (s : Shared) (v : Value), BindsTo s fd ⟨[v], []⟩ [("script", v)]) ∧ ∀ base : Heap, K.In base → base.Ns mainGlobals mg → FnOk l.prog w K mg base CX0 LEVEL fa fd ["script"] (sp_law K) := by
  have e := hfa.symm.trans (PySem.W.mg_of X G a_law)
  cases e
  let T : Txt K mg := {
    f_line_right := f_line_right, d_line_right := _, F_line_right := fun_mk (st := s_line_right) l_line_right c_line_right k_line_right, m_line_right := PySem.W.mg_of X G a_line_right,
    b_line_right := (fun_mk (st := s_line_right) l_line_right c_line_right k_line_right).binds (ps := ["corners", "line"]) fun _ _ _ _ _ _ us hl => match us, hl with | [_, _], _ => rfl,
    f_crossing := f_crossing, d_crossing := _, F_crossing := fun_mk (st := s_crossing) l_crossing c_crossing k_crossing, m_crossing := PySem.W.mg_of X G a_crossing,
    b_crossing := (fun_mk (st := s_crossing) l_crossing c_crossing k_crossing).binds (ps := ["line", "other"]) fun _ _ _ _ _ _ us hl => match us, hl with | [_, _], _ => rfl,
    f_is_cut := f_is_cut, d_is_cut := _, F_is_cut := fun_mk (st := s_is_cut) l_is_cut c_is_cut k_is_cut, m_is_cut := PySem.W.mg_of X G a_is_cut,
    b_is_cut := (fun_mk (st := s_is_cut) l_is_cut c_is_cut k_is_cut).binds (ps := ["corners", "lines"]) fun _ _ _ _ _ _ us hl => match us, hl with | [_, _], _ => rfl,
    f_must_cut := f_must_cut, d_must_cut := _, F_must_cut := fun_mk (st := s_must_cut) l_must_cut c_must_cut k_must_cut, m_must_cut := PySem.W.mg_of X G a_must_cut,
    b_must_cut := (fun_mk (st := s_must_cut) l_must_cut c_must_cut k_must_cut).binds (ps := ["corners", "lines"]) fun _ _ _ _ _ _ us hl => match us, hl with | [_, _], _ => rfl,
    f_is_side := f_is_side, d_is_side := _, F_is_side := fun_mk (st := s_is_side) l_is_side c_is_side k_is_side, m_is_side := PySem.W.mg_of X G a_is_side,
    b_is_side := (fun_mk (st := s_is_side) l_is_side c_is_side k_is_side).binds (ps := ["corners", "lines", "one", "other"]) fun _ _ _ _ _ _ us hl => match us, hl with | [_, _, _, _], _ => rfl,
    f_triangles := f_triangles, d_triangles := _, F_triangles := fun_mk (st := s_triangles) l_triangles c_triangles k_triangles, m_triangles := PySem.W.mg_of X G a_triangles,
    b_triangles := (fun_mk (st := s_triangles) l_triangles c_triangles k_triangles).binds (ps := ["corners", "lines"]) fun _ _ _ _ _ _ us hl => match us, hl with | [_, _], _ => rfl,
    f_form_by := f_form_by, d_form_by := _, F_form_by := fun_mk (st := s_form_by) l_form_by c_form_by k_form_by, m_form_by := PySem.W.mg_of X G a_form_by,
    b_form_by := (fun_mk (st := s_form_by) l_form_by c_form_by k_form_by).binds (ps := ["corners", "lines"]) fun _ _ _ _ _ _ us hl => match us, hl with | [_, _], _ => rfl,
    f_form_of := f_form_of, d_form_of := _, F_form_of := fun_mk (st := s_form_of) l_form_of c_form_of k_form_of, m_form_of := PySem.W.mg_of X G a_form_of,
    b_form_of := (fun_mk (st := s_form_of) l_form_of c_form_of k_form_of).binds (ps := ["corners", "lines"]) fun _ _ _ _ _ _ us hl => match us, hl with | [_, _], _ => rfl,
    f_cut_turned := f_cut_turned, d_cut_turned := _, F_cut_turned := fun_mk (st := s_cut_turned) l_cut_turned c_cut_turned k_cut_turned, m_cut_turned := PySem.W.mg_of X G a_cut_turned,
    b_cut_turned := (fun_mk (st := s_cut_turned) l_cut_turned c_cut_turned k_cut_turned).binds (ps := ["corners", "lines", "line"]) fun _ _ _ _ _ _ us hl => match us, hl with | [_, _, _], _ => rfl,
    f__law_cell := f__law_cell, d__law_cell := _, F__law_cell := fun_mk (st := s__law_cell) l__law_cell c__law_cell k__law_cell, m__law_cell := PySem.W.mg_of X G a__law_cell,
    b__law_cell := (fun_mk (st := s__law_cell) l__law_cell c__law_cell k__law_cell).binds (ps := ["script", "k"]) fun _ _ _ _ _ _ us hl => match us, hl with | [_, _], _ => rfl,
    f__law_like := f__law_like, d__law_like := _, F__law_like := fun_mk (st := s__law_like) l__law_like c__law_like k__law_like, m__law_like := PySem.W.mg_of X G a__law_like,
    b__law_like := (fun_mk (st := s__law_like) l__law_like c__law_like k__law_like).binds (ps := ["found", "due"]) fun _ _ _ _ _ _ us hl => match us, hl with | [_, _], _ => rfl,
    f__law_line := f__law_line, d__law_line := _, F__law_line := fun_mk (st := s__law_line) l__law_line c__law_line k__law_line, m__law_line := PySem.W.mg_of X G a__law_line,
    b__law_line := (fun_mk (st := s__law_line) l__law_line c__law_line k__law_line).binds (ps := ["corners", "line"]) fun _ _ _ _ _ _ us hl => match us, hl with | [_, _], _ => rfl,
    f__law_cross := f__law_cross, d__law_cross := _, F__law_cross := fun_mk (st := s__law_cross) l__law_cross c__law_cross k__law_cross, m__law_cross := PySem.W.mg_of X G a__law_cross,
    b__law_cross := (fun_mk (st := s__law_cross) l__law_cross c__law_cross k__law_cross).binds (ps := ["line", "other"]) fun _ _ _ _ _ _ us hl => match us, hl with | [_, _], _ => rfl,
    f__law_is_cut := f__law_is_cut, d__law_is_cut := _, F__law_is_cut := fun_mk (st := s__law_is_cut) l__law_is_cut c__law_is_cut k__law_is_cut, m__law_is_cut := PySem.W.mg_of X G a__law_is_cut,
    b__law_is_cut := (fun_mk (st := s__law_is_cut) l__law_is_cut c__law_is_cut k__law_is_cut).binds (ps := ["corners", "lines"]) fun _ _ _ _ _ _ us hl => match us, hl with | [_, _], _ => rfl,
    f__law_cut := f__law_cut, d__law_cut := _, F__law_cut := fun_mk (st := s__law_cut) l__law_cut c__law_cut k__law_cut, m__law_cut := PySem.W.mg_of X G a__law_cut,
    b__law_cut := (fun_mk (st := s__law_cut) l__law_cut c__law_cut k__law_cut).binds (ps := ["script", "k", "corners"]) fun _ _ _ _ _ _ us hl => match us, hl with | [_, _, _], _ => rfl,
    f__law_parts := f__law_parts, d__law_parts := _, F__law_parts := fun_mk (st := s__law_parts) l__law_parts c__law_parts k__law_parts, m__law_parts := PySem.W.mg_of X G a__law_parts,
    b__law_parts := (fun_mk (st := s__law_parts) l__law_parts c__law_parts k__law_parts).binds (ps := ["corners", "lines"]) fun _ _ _ _ _ _ us hl => match us, hl with | [_, _], _ => rfl,
    f__law_form_of := f__law_form_of, d__law_form_of := _, F__law_form_of := fun_mk (st := s__law_form_of) l__law_form_of c__law_form_of k__law_form_of, m__law_form_of := PySem.W.mg_of X G a__law_form_of,
    b__law_form_of := (fun_mk (st := s__law_form_of) l__law_form_of c__law_form_of k__law_form_of).binds (ps := ["corners", "lines"]) fun _ _ _ _ _ _ us hl => match us, hl with | [_, _], _ => rfl,
    f__law_which := f__law_which, d__law_which := _, F__law_which := fun_mk (st := s__law_which) l__law_which c__law_which k__law_which, m__law_which := PySem.W.mg_of X G a__law_which,
    b__law_which := (fun_mk (st := s__law_which) l__law_which c__law_which k__law_which).binds (ps := ["e"]) fun _ _ _ _ _ _ us hl => match us, hl with | [_], _ => rfl,
    f__law_hurt := f__law_hurt, d__law_hurt := _, F__law_hurt := fun_mk (st := s__law_hurt) l__law_hurt c__law_hurt k__law_hurt, m__law_hurt := PySem.W.mg_of X G a__law_hurt,
    b__law_hurt := (fun_mk (st := s__law_hurt) l__law_hurt c__law_hurt k__law_hurt).binds (ps := ["lines", "mode", "cell", "number"]) fun _ _ _ _ _ _ us hl => match us, hl with | [_, _, _, _], _ => rfl,
    f__law_met := f__law_met, d__law_met := _, F__law_met := fun_mk (st := s__law_met) l__law_met c__law_met k__law_met, m__law_met := PySem.W.mg_of X G a__law_met,
    b__law_met := (fun_mk (st := s__law_met) l__law_met c__law_met k__law_met).binds (ps := ["how", "corners", "lines", "line"]) fun _ _ _ _ _ _ us hl => match us, hl with | [_, _, _, _], _ => rfl,
    f__law_told := f__law_told, d__law_told := _, F__law_told := fun_mk (st := s__law_told) l__law_told c__law_told k__law_told, m__law_told := PySem.W.mg_of X G a__law_told,
    b__law_told := (fun_mk (st := s__law_told) l__law_told c__law_told k__law_told).binds (ps := ["corners", "lines", "handed"]) fun _ _ _ _ _ _ us hl => match us, hl with | [_, _, _], _ => rfl,
    f_law := _, d_law := _, F_law := fun_mk (st := s_law) l_law c_law k_law, m_law := PySem.W.mg_of X G a_law,
    b_law := (fun_mk (st := s_law) l_law c_law k_law).binds (ps := ["script"]) fun _ _ _ _ _ _ us hl => match us, hl with | [_], _ => rfl,
    t_MOST_CORNERS := t_MOST_CORNERS, m_MOST_CORNERS := PySem.W.mg_of X G m_MOST_CORNERS,
    c_TurnError := c_TurnError, g_TurnError := PySem.W.mg_of X G g_TurnError, x_TurnError := { g := PySem.W.mg_of X G g_TurnError, xn := xxn_TurnError, kp := xkp_TurnError, bs := xbs_TurnError, ty := xty_TurnError, ic := xic_TurnError, hg := xhg_TurnError, hk := xhk_TurnError, hd := xhd_TurnError, ha := xha_TurnError, hn := xhn_TurnError, ht := xht_TurnError, hm := xhm_TurnError, vs := xvs_TurnError },
    c_NoForm := c_NoForm, g_NoForm := PySem.W.mg_of X G g_NoForm, x_NoForm := { g := PySem.W.mg_of X G g_NoForm, xn := xxn_NoForm, kp := xkp_NoForm, bs := xbs_NoForm, ty := xty_NoForm, ic := xic_NoForm, hg := xhg_NoForm, hk := xhk_NoForm, hd := xhd_NoForm, ha := xha_NoForm, hn := xhn_NoForm, ht := xht_NoForm, hm := xhm_NoForm, vs := xvs_NoForm },
    c_NoBox := c_NoBox, g_NoBox := PySem.W.mg_of X G g_NoBox, x_NoBox := { g := PySem.W.mg_of X G g_NoBox, xn := xxn_NoBox, kp := xkp_NoBox, bs := xbs_NoBox, ty := xty_NoBox, ic := xic_NoBox, hg := xhg_NoBox, hk := xhk_NoBox, hd := xhd_NoBox, ha := xha_NoBox, hn := xhn_NoBox, ht := xht_NoBox, hm := xhm_NoBox, vs := xvs_NoBox },
    c_NoNames := c_NoNames, g_NoNames := PySem.W.mg_of X G g_NoNames, x_NoNames := { g := PySem.W.mg_of X G g_NoNames, xn := xxn_NoNames, kp := xkp_NoNames, bs := xbs_NoNames, ty := xty_NoNames, ic := xic_NoNames, hg := xhg_NoNames, hk := xhk_NoNames, hd := xhd_NoNames, ha := xha_NoNames, hn := xhn_NoNames, ht := xht_NoNames, hm := xhm_NoNames, vs := xvs_NoNames },
    c_NoCut := c_NoCut, g_NoCut := PySem.W.mg_of X G g_NoCut, x_NoCut := { g := PySem.W.mg_of X G g_NoCut, xn := xxn_NoCut, kp := xkp_NoCut, bs := xbs_NoCut, ty := xty_NoCut, ic := xic_NoCut, hg := xhg_NoCut, hk := xhk_NoCut, hd := xhd_NoCut, ha := xha_NoCut, hn := xhn_NoCut, ht := xht_NoCut, hm := xhm_NoCut, vs := xvs_NoCut },
    c_TooMany := c_TooMany, g_TooMany := PySem.W.mg_of X G g_TooMany, x_TooMany := { g := PySem.W.mg_of X G g_TooMany, xn := xxn_TooMany, kp := xkp_TooMany, bs := xbs_TooMany, ty := xty_TooMany, ic := xic_TooMany, hg := xhg_TooMany, hk := xhk_TooMany, hd := xhd_TooMany, ha := xha_TooMany, hn := xhn_TooMany, ht := xht_TooMany, hm := xhm_TooMany, vs := xvs_TooMany },
    u_TurnError_TurnError := u_TurnError_TurnError,
    u_TurnError_NoForm := u_TurnError_NoForm,
    u_TurnError_NoBox := u_TurnError_NoBox,
    u_TurnError_NoNames := u_TurnError_NoNames,
    u_TurnError_NoCut := u_TurnError_NoCut,
    u_TurnError_TooMany := u_TurnError_TooMany,
    u_NoForm_TurnError := u_NoForm_TurnError,
    u_NoForm_NoForm := u_NoForm_NoForm,
    u_NoForm_NoBox := u_NoForm_NoBox,
    u_NoForm_NoNames := u_NoForm_NoNames,
    u_NoForm_NoCut := u_NoForm_NoCut,
    u_NoForm_TooMany := u_NoForm_TooMany,
    u_NoBox_TurnError := u_NoBox_TurnError,
    u_NoBox_NoForm := u_NoBox_NoForm,
    u_NoBox_NoBox := u_NoBox_NoBox,
    u_NoBox_NoNames := u_NoBox_NoNames,
    u_NoBox_NoCut := u_NoBox_NoCut,
    u_NoBox_TooMany := u_NoBox_TooMany,
    u_NoNames_TurnError := u_NoNames_TurnError,
    u_NoNames_NoForm := u_NoNames_NoForm,
    u_NoNames_NoBox := u_NoNames_NoBox,
    u_NoNames_NoNames := u_NoNames_NoNames,
    u_NoNames_NoCut := u_NoNames_NoCut,
    u_NoNames_TooMany := u_NoNames_TooMany,
    u_NoCut_TurnError := u_NoCut_TurnError,
    u_NoCut_NoForm := u_NoCut_NoForm,
    u_NoCut_NoBox := u_NoCut_NoBox,
    u_NoCut_NoNames := u_NoCut_NoNames,
    u_NoCut_NoCut := u_NoCut_NoCut,
    u_NoCut_TooMany := u_NoCut_TooMany,
    u_TooMany_TurnError := u_TooMany_TurnError,
    u_TooMany_NoForm := u_TooMany_NoForm,
    u_TooMany_NoBox := u_TooMany_NoBox,
    u_TooMany_NoNames := u_TooMany_NoNames,
    u_TooMany_NoCut := u_TooMany_NoCut,
    u_TooMany_TooMany := u_TooMany_TooMany,
    b_len := PySem.W.mg_none_of X G b_len,
    b_range := PySem.W.mg_none_of X G b_range,
    b_sum := PySem.W.mg_none_of X G b_sum,
    b_sorted := PySem.W.mg_none_of X G b_sorted,
    b_max := PySem.W.mg_none_of X G b_max,
    b_min := PySem.W.mg_none_of X G b_min,
    b_isinstance := PySem.W.mg_none_of X G b_isinstance,
    b_list := PySem.W.mg_none_of X G b_list,
    b_zip := PySem.W.mg_none_of X G b_zip,
    b_bool := PySem.W.mg_none_of X G b_bool,
    b_int := PySem.W.mg_none_of X G b_int,
    b_ValueError := PySem.W.mg_none_of X G b_ValueError,
    b_all := PySem.W.mg_none_of X G b_all,
    b_tuple := PySem.W.mg_none_of X G b_tuple }
  exact ⟨PySem.W.fnOf "law" "law" (defArgs s_law) (defBody s_law) (defScope s_law) .none kV_law dc_law pm_law an_law cd_law ct_law, fun s v => .of_eq rfl, fun base _ _ => law_ok T⟩
end AT
open PySem PySem.W PyProof.Rows
set_option maxHeartbeats 0 in
theorem PySem.Challenge.cw_arrowturns_k13_cuts_and_their_forms_holds : PySem.Challenge.rw_arrowturns_k13_cuts_and_their_forms.Holds := by
  w_on; o_law; k_head; (case hw => w_witness2)
  k_fill
  refine L2.walk_of (l := PySem.Challenge.rw_arrowturns_k13_cuts_and_their_forms) (n := 63) (k := AT.LEVEL) (x := "script") (CX := fun _ => L2.CX0) (sp := fun w => AT.sp_law _) rfl (by decide) rfl ⟨rfl, by decide, by decide⟩ (fun w h Y => PySem.W.kIn_of Y) ?F (fun _ _ a ns hl _ hS => ⟨a, ns, rfl, hS, hl, fun _ => rfl⟩) (fun _ _ _ _ _ h => h)
  case F =>
    intro w mg fa h KX G hmg
    refine' AT.all_mk KX G hmg ?a_line_right ?l_line_right ?c_line_right ?k_line_right ?a_crossing ?l_crossing ?c_crossing ?k_crossing ?a_is_cut ?l_is_cut ?c_is_cut ?k_is_cut ?a_must_cut ?l_must_cut ?c_must_cut ?k_must_cut ?a_is_side ?l_is_side ?c_is_side ?k_is_side ?a_triangles ?l_triangles ?c_triangles ?k_triangles ?a_form_by ?l_form_by ?c_form_by ?k_form_by ?a_form_of ?l_form_of ?c_form_of ?k_form_of ?a_cut_turned ?l_cut_turned ?c_cut_turned ?k_cut_turned ?a__law_cell ?l__law_cell ?c__law_cell ?k__law_cell ?a__law_like ?l__law_like ?c__law_like ?k__law_like ?a__law_line ?l__law_line ?c__law_line ?k__law_line ?a__law_cross ?l__law_cross ?c__law_cross ?k__law_cross ?a__law_is_cut ?l__law_is_cut ?c__law_is_cut ?k__law_is_cut ?a__law_cut ?l__law_cut ?c__law_cut ?k__law_cut ?a__law_parts ?l__law_parts ?c__law_parts ?k__law_parts ?a__law_form_of ?l__law_form_of ?c__law_form_of ?k__law_form_of ?a__law_which ?l__law_which ?c__law_which ?k__law_which ?a__law_hurt ?l__law_hurt ?c__law_hurt ?k__law_hurt ?a__law_met ?l__law_met ?c__law_met ?k__law_met ?a__law_told ?l__law_told ?c__law_told ?k__law_told ?a_law ?l_law ?c_law ?k_law ?m_MOST_CORNERS ?g_TurnError ?xxn_TurnError ?xkp_TurnError ?xbs_TurnError ?xty_TurnError ?xic_TurnError ?xhg_TurnError ?xhk_TurnError ?xhd_TurnError ?xha_TurnError ?xhn_TurnError ?xht_TurnError ?xhm_TurnError ?xvs_TurnError ?g_NoForm ?xxn_NoForm ?xkp_NoForm ?xbs_NoForm ?xty_NoForm ?xic_NoForm ?xhg_NoForm ?xhk_NoForm ?xhd_NoForm ?xha_NoForm ?xhn_NoForm ?xht_NoForm ?xhm_NoForm ?xvs_NoForm ?g_NoBox ?xxn_NoBox ?xkp_NoBox ?xbs_NoBox ?xty_NoBox ?xic_NoBox ?xhg_NoBox ?xhk_NoBox ?xhd_NoBox ?xha_NoBox ?xhn_NoBox ?xht_NoBox ?xhm_NoBox ?xvs_NoBox ?g_NoNames ?xxn_NoNames ?xkp_NoNames ?xbs_NoNames ?xty_NoNames ?xic_NoNames ?xhg_NoNames ?xhk_NoNames ?xhd_NoNames ?xha_NoNames ?xhn_NoNames ?xht_NoNames ?xhm_NoNames ?xvs_NoNames ?g_NoCut ?xxn_NoCut ?xkp_NoCut ?xbs_NoCut ?xty_NoCut ?xic_NoCut ?xhg_NoCut ?xhk_NoCut ?xhd_NoCut ?xha_NoCut ?xhn_NoCut ?xht_NoCut ?xhm_NoCut ?xvs_NoCut ?g_TooMany ?xxn_TooMany ?xkp_TooMany ?xbs_TooMany ?xty_TooMany ?xic_TooMany ?xhg_TooMany ?xhk_TooMany ?xhd_TooMany ?xha_TooMany ?xhn_TooMany ?xht_TooMany ?xhm_TooMany ?xvs_TooMany ?u_TurnError_TurnError ?u_TurnError_NoForm ?u_TurnError_NoBox ?u_TurnError_NoNames ?u_TurnError_NoCut ?u_TurnError_TooMany ?u_NoForm_TurnError ?u_NoForm_NoForm ?u_NoForm_NoBox ?u_NoForm_NoNames ?u_NoForm_NoCut ?u_NoForm_TooMany ?u_NoBox_TurnError ?u_NoBox_NoForm ?u_NoBox_NoBox ?u_NoBox_NoNames ?u_NoBox_NoCut ?u_NoBox_TooMany ?u_NoNames_TurnError ?u_NoNames_NoForm ?u_NoNames_NoBox ?u_NoNames_NoNames ?u_NoNames_NoCut ?u_NoNames_TooMany ?u_NoCut_TurnError ?u_NoCut_NoForm ?u_NoCut_NoBox ?u_NoCut_NoNames ?u_NoCut_NoCut ?u_NoCut_TooMany ?u_TooMany_TurnError ?u_TooMany_NoForm ?u_TooMany_NoBox ?u_TooMany_NoNames ?u_TooMany_NoCut ?u_TooMany_TooMany ?b_len ?b_range ?b_sum ?b_sorted ?b_max ?b_min ?b_isinstance ?b_list ?b_zip ?b_bool ?b_int ?b_ValueError ?b_all ?b_tuple
    (case a_line_right => k_is)
    (case l_line_right => k_is)
    (case c_line_right => k_is)
    (case k_line_right => k_is)
    (case a_crossing => k_is)
    (case l_crossing => k_is)
    (case c_crossing => k_is)
    (case k_crossing => k_is)
    (case a_is_cut => k_is)
    (case l_is_cut => k_is)
    (case c_is_cut => k_is)
    (case k_is_cut => k_is)
    (case a_must_cut => k_is)
    (case l_must_cut => k_is)
    (case c_must_cut => k_is)
    (case k_must_cut => k_is)
    (case a_is_side => k_is)
    (case l_is_side => k_is)
    (case c_is_side => k_is)
    (case k_is_side => k_is)
    (case a_triangles => k_is)
    (case l_triangles => k_is)
    (case c_triangles => k_is)
    (case k_triangles => k_is)
    (case a_form_by => k_is)
    (case l_form_by => k_is)
    (case c_form_by => k_is)
    (case k_form_by => k_is)
    (case a_form_of => k_is)
    (case l_form_of => k_is)
    (case c_form_of => k_is)
    (case k_form_of => k_is)
    (case a_cut_turned => k_is)
    (case l_cut_turned => k_is)
    (case c_cut_turned => k_is)
    (case k_cut_turned => k_is)
    (case a__law_cell => k_is)
    (case l__law_cell => k_is)
    (case c__law_cell => k_is)
    (case k__law_cell => k_is)
    (case a__law_like => k_is)
    (case l__law_like => k_is)
    (case c__law_like => k_is)
    (case k__law_like => k_is)
    (case a__law_line => k_is)
    (case l__law_line => k_is)
    (case c__law_line => k_is)
    (case k__law_line => k_is)
    (case a__law_cross => k_is)
    (case l__law_cross => k_is)
    (case c__law_cross => k_is)
    (case k__law_cross => k_is)
    (case a__law_is_cut => k_is)
    (case l__law_is_cut => k_is)
    (case c__law_is_cut => k_is)
    (case k__law_is_cut => k_is)
    (case a__law_cut => k_is)
    (case l__law_cut => k_is)
    (case c__law_cut => k_is)
    (case k__law_cut => k_is)
    (case a__law_parts => k_is)
    (case l__law_parts => k_is)
    (case c__law_parts => k_is)
    (case k__law_parts => k_is)
    (case a__law_form_of => k_is)
    (case l__law_form_of => k_is)
    (case c__law_form_of => k_is)
    (case k__law_form_of => k_is)
    (case a__law_which => k_is)
    (case l__law_which => k_is)
    (case c__law_which => k_is)
    (case k__law_which => k_is)
    (case a__law_hurt => k_is)
    (case l__law_hurt => k_is)
    (case c__law_hurt => k_is)
    (case k__law_hurt => k_is)
    (case a__law_met => k_is)
    (case l__law_met => k_is)
    (case c__law_met => k_is)
    (case k__law_met => k_is)
    (case a__law_told => k_is)
    (case l__law_told => k_is)
    (case c__law_told => k_is)
    (case k__law_told => k_is)
    (case a_law => k_is)
    (case l_law => k_is)
    (case c_law => k_is)
    (case k_law => k_is)
    (case m_MOST_CORNERS => k_is)
    (case g_TurnError => k_is)
    (case xxn_TurnError => k_exc)
    (case xkp_TurnError => k_is)
    (case xbs_TurnError => k_is)
    (case xty_TurnError => k_is)
    (case xic_TurnError => k_is)
    (case xhg_TurnError => k_is)
    (case xhk_TurnError => k_is)
    (case xhd_TurnError => k_is)
    (case xha_TurnError => k_is)
    (case xhn_TurnError => k_is)
    (case xht_TurnError => k_is)
    (case xhm_TurnError => k_is)
    (case xvs_TurnError => k_is)
    (case g_NoForm => k_is)
    (case xxn_NoForm => k_exc)
    (case xkp_NoForm => k_is)
    (case xbs_NoForm => k_is)
    (case xty_NoForm => k_is)
    (case xic_NoForm => k_is)
    (case xhg_NoForm => k_is)
    (case xhk_NoForm => k_is)
    (case xhd_NoForm => k_is)
    (case xha_NoForm => k_is)
    (case xhn_NoForm => k_is)
    (case xht_NoForm => k_is)
    (case xhm_NoForm => k_is)
    (case xvs_NoForm => k_is)
    (case g_NoBox => k_is)
    (case xxn_NoBox => k_exc)
    (case xkp_NoBox => k_is)
    (case xbs_NoBox => k_is)
    (case xty_NoBox => k_is)
    (case xic_NoBox => k_is)
    (case xhg_NoBox => k_is)
    (case xhk_NoBox => k_is)
    (case xhd_NoBox => k_is)
    (case xha_NoBox => k_is)
    (case xhn_NoBox => k_is)
    (case xht_NoBox => k_is)
    (case xhm_NoBox => k_is)
    (case xvs_NoBox => k_is)
    (case g_NoNames => k_is)
    (case xxn_NoNames => k_exc)
    (case xkp_NoNames => k_is)
    (case xbs_NoNames => k_is)
    (case xty_NoNames => k_is)
    (case xic_NoNames => k_is)
    (case xhg_NoNames => k_is)
    (case xhk_NoNames => k_is)
    (case xhd_NoNames => k_is)
    (case xha_NoNames => k_is)
    (case xhn_NoNames => k_is)
    (case xht_NoNames => k_is)
    (case xhm_NoNames => k_is)
    (case xvs_NoNames => k_is)
    (case g_NoCut => k_is)
    (case xxn_NoCut => k_exc)
    (case xkp_NoCut => k_is)
    (case xbs_NoCut => k_is)
    (case xty_NoCut => k_is)
    (case xic_NoCut => k_is)
    (case xhg_NoCut => k_is)
    (case xhk_NoCut => k_is)
    (case xhd_NoCut => k_is)
    (case xha_NoCut => k_is)
    (case xhn_NoCut => k_is)
    (case xht_NoCut => k_is)
    (case xhm_NoCut => k_is)
    (case xvs_NoCut => k_is)
    (case g_TooMany => k_is)
    (case xxn_TooMany => k_exc)
    (case xkp_TooMany => k_is)
    (case xbs_TooMany => k_is)
    (case xty_TooMany => k_is)
    (case xic_TooMany => k_is)
    (case xhg_TooMany => k_is)
    (case xhk_TooMany => k_is)
    (case xhd_TooMany => k_is)
    (case xha_TooMany => k_is)
    (case xhn_TooMany => k_is)
    (case xht_TooMany => k_is)
    (case xhm_TooMany => k_is)
    (case xvs_TooMany => k_is)
    (case u_TurnError_TurnError => k_is)
    (case u_TurnError_NoForm => k_is)
    (case u_TurnError_NoBox => k_is)
    (case u_TurnError_NoNames => k_is)
    (case u_TurnError_NoCut => k_is)
    (case u_TurnError_TooMany => k_is)
    (case u_NoForm_TurnError => k_is)
    (case u_NoForm_NoForm => k_is)
    (case u_NoForm_NoBox => k_is)
    (case u_NoForm_NoNames => k_is)
    (case u_NoForm_NoCut => k_is)
    (case u_NoForm_TooMany => k_is)
    (case u_NoBox_TurnError => k_is)
    (case u_NoBox_NoForm => k_is)
    (case u_NoBox_NoBox => k_is)
    (case u_NoBox_NoNames => k_is)
    (case u_NoBox_NoCut => k_is)
    (case u_NoBox_TooMany => k_is)
    (case u_NoNames_TurnError => k_is)
    (case u_NoNames_NoForm => k_is)
    (case u_NoNames_NoBox => k_is)
    (case u_NoNames_NoNames => k_is)
    (case u_NoNames_NoCut => k_is)
    (case u_NoNames_TooMany => k_is)
    (case u_NoCut_TurnError => k_is)
    (case u_NoCut_NoForm => k_is)
    (case u_NoCut_NoBox => k_is)
    (case u_NoCut_NoNames => k_is)
    (case u_NoCut_NoCut => k_is)
    (case u_NoCut_TooMany => k_is)
    (case u_TooMany_TurnError => k_is)
    (case u_TooMany_NoForm => k_is)
    (case u_TooMany_NoBox => k_is)
    (case u_TooMany_NoNames => k_is)
    (case u_TooMany_NoCut => k_is)
    (case u_TooMany_TooMany => k_is)
    (case b_len => k_is)
    (case b_range => k_is)
    (case b_sum => k_is)
    (case b_sorted => k_is)
    (case b_max => k_is)
    (case b_min => k_is)
    (case b_isinstance => k_is)
    (case b_list => k_is)
    (case b_zip => k_is)
    (case b_bool => k_is)
    (case b_int => k_is)
    (case b_ValueError => k_is)
    (case b_all => k_is)
    (case b_tuple => k_is)

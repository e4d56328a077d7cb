import PyProof.Rows.All
import Wide.All
import OpenK.AllK
import Wide.FinOn
import PyProof.EqAt
import PyProof.EqKinds
import PyProof.TupleCall
import PySem.Challenge.RW_arrowturns_k14_whole_cuts_and_turns
import HandS.ForMost
import HandS.Evl
import HandS.Exc
import HandS.ExcOwn
import HandS.TryOnly
import HandS.WordsExc
import HandS.IsInst
import HandS.ExcIs
import HandS.HotCalls
import HandS.Wide
import HandS.Zip
import HandS.Conv
import HandS.More
import HandS.Style
import HandS.Deep
import HandS.Walk
import KE.DatumOrd
import KE.DataCmp
import KE.DataMinMax
import KE.SortData
import KE.KTupSum
set_option Elab.async false
set_option linter.all false
set_option maxRecDepth 100000
set_option maxHeartbeats 4000000

/-! ## the layer of these proofs: lists of lists, what a reading tells of them -/
namespace AT
open PySem PySem.Spec PyProof.Rows L2 Evl
abbrev St := L2.St
abbrev Frag := PySem.W.Frag

theorem bfF {p : Prop} (h : ¬ p) : (false = true ↔ p) := ⟨fun z => (Bool.false_ne_true z).elim, fun z => (h z).elim⟩
theorem bfT {p : Prop} (h : p) : (true = true ↔ p) := ⟨fun _ => h, fun _ => rfl⟩
/-- whether p holds -/
noncomputable def dec (p : Prop) : Bool := @decide p (Classical.propDecidable p)
theorem dec_eq {b : Bool} {p : Prop} (h : b = true ↔ p) : b = dec p := by
  unfold dec
  cases b with
  | true => exact (@decide_eq_true p (Classical.propDecidable p) (h.mp rfl)).symm
  | false => exact (@decide_eq_false p (Classical.propDecidable p) fun z => Bool.false_ne_true (h.mpr z)).symm
theorem dec_true {p : Prop} (h : p) : dec p = true := (dec_eq (bfT h)).symm
theorem dec_false {p : Prop} (h : ¬ p) : dec p = false := (dec_eq (bfF h)).symm
theorem of_dec {p : Prop} (h : dec p = true) : p := Classical.byContradiction fun z => by
  rw [dec_false z] at h
  exact Bool.false_ne_true h
theorem of_dec_f {p : Prop} (h : dec p = false) : ¬ p := fun z => by
  rw [dec_true z] at h
  exact Bool.noConfusion h
/-! ### lists of ints, of lists of ints -/
def LI (K : Frag) (H : Hp) (a : Addr) (xs : List Int) : Prop := SqL K H a (xs.map V.int)
def LLI (K : Frag) (H : Hp) (a : Addr) (M : List (List Int)) : Prop := ∃ as : List Addr, SqL K H a (as.map V.ref) ∧ Paired (fun x r => LI K H x r) as M
/-- of our own making: behind H0 -/
def OLI (H0 H : Hp) (a : Addr) (xs : List Int) : Prop := H0 a = none ∧ H a = some (.lst (xs.map V.int))
def OLLI (H0 H : Hp) (a : Addr) (M : List (List Int)) : Prop := ∃ as : List Addr, H0 a = none ∧ H a = some (.lst (as.map V.ref)) ∧ (a :: as).Nodup ∧ Paired (fun x r => OLI H0 H x r) as M

theorem paired_mono {α β : Type} {F G : α → β → Prop} : ∀ {l₁ : List α} {l₂ : List β}, Paired F l₁ l₂ → (∀ a b, F a b → G a b) → Paired G l₁ l₂
  | _, _, .nil, _ => .nil
  | _, _, .cons r t, f => .cons (f _ _ r) (paired_mono t f)
theorem paired_mem_mono {α β : Type} {F G : α → β → Prop} : ∀ {l₁ : List α} {l₂ : List β}, Paired F l₁ l₂ → (∀ a b, a ∈ l₁ → F a b → G a b) → Paired G l₁ l₂
  | _, _, .nil, _ => .nil
  | _, _, .cons r t, f => .cons (f _ _ List.mem_cons_self r) (paired_mem_mono t fun a b h => f a b (List.mem_cons_of_mem _ h))
theorem paired_get {α β : Type} {F : α → β → Prop} : ∀ {l₁ : List α} {l₂ : List β} {i : Nat} {y : β}, Paired F l₁ l₂ → l₂[i]? = some y → ∃ x, l₁[i]? = some x ∧ F x y
  | _, _, _, _, .nil, e => by simp at e
  | _, _, 0, _, .cons r _, e => by simp at e; subst e; exact ⟨_, rfl, r⟩
  | _, _, i + 1, y, .cons _ t, e => by
    obtain ⟨u, h1, h2⟩ := paired_get (i := i) (y := y) t (by simpa using e)
    exact ⟨u, by simpa using h1, h2⟩
theorem paired_getL {α β : Type} {F : α → β → Prop} : ∀ {l₁ : List α} {l₂ : List β} {i : Nat} {x : α}, Paired F l₁ l₂ → l₁[i]? = some x → ∃ y, l₂[i]? = some y ∧ F x y
  | _, _, _, _, .nil, e => by simp at e
  | _, _, 0, _, .cons r _, e => by simp at e; subst e; exact ⟨_, rfl, r⟩
  | _, _, i + 1, y, .cons _ t, e => by
    obtain ⟨u, h1, h2⟩ := paired_getL (i := i) (x := y) t (by simpa using e)
    exact ⟨u, by simpa using h1, h2⟩
theorem paired_append {α β : Type} {F : α → β → Prop} : ∀ {l₁ k₁ : List α} {l₂ k₂ : List β}, Paired F l₁ l₂ → Paired F k₁ k₂ → Paired F (l₁ ++ k₁) (l₂ ++ k₂)
  | _, _, _, _, .nil, h => h
  | _, _, _, _, .cons r t, h => .cons r (paired_append t h)
theorem paired_mem {α β : Type} {F : α → β → Prop} : ∀ {l₁ : List α} {l₂ : List β} {x : α}, Paired F l₁ l₂ → x ∈ l₁ → ∃ y, y ∈ l₂ ∧ F x y
  | _, _, _, .nil, e => by cases e
  | _, _, _, .cons r t, e => by
    rcases List.mem_cons.mp e with rfl | e
    · exact ⟨_, List.mem_cons_self, r⟩
    · obtain ⟨y, h1, h2⟩ := paired_mem t e
      exact ⟨y, List.mem_cons_of_mem _ h1, h2⟩
theorem paired_of {α β : Type} {F : α → β → Prop} : ∀ {l₁ : List α} {l₂ : List β}, l₁.length = l₂.length → (∀ (i : Nat) x y, l₁[i]? = some x → l₂[i]? = some y → F x y) → Paired F l₁ l₂
  | [], [], _, _ => .nil
  | [], _ :: _, h, _ => by simp at h
  | _ :: _, [], h, _ => by simp at h
  | a :: l₁, b :: l₂, h, f => .cons (f 0 a b rfl rfl) (paired_of (by simpa using h) fun i x y h1 h2 => f (i + 1) x y (by simpa using h1) (by simpa using h2))
theorem paired_set {α β : Type} {F : α → β → Prop} {x : α} {y : β} (r : F x y) : ∀ {l₁ : List α} {l₂ : List β} (i : Nat), Paired F l₁ l₂ → Paired F (l₁.set i x) (l₂.set i y)
  | _, _, _, .nil => .nil
  | _, _, 0, .cons _ t => .cons r t
  | _, _, i + 1, .cons q t => .cons q (paired_set r i t)
theorem paired_drop {α β : Type} {F : α → β → Prop} : ∀ {l₁ : List α} {l₂ : List β} (n : Nat), Paired F l₁ l₂ → Paired F (l₁.drop n) (l₂.drop n)
  | _, _, 0, r => r
  | _, _, _ + 1, .nil => .nil
  | _, _, n + 1, .cons _ t => paired_drop n t
theorem paired_dropLast {α β : Type} {F : α → β → Prop} : ∀ {l₁ : List α} {l₂ : List β}, Paired F l₁ l₂ → Paired F l₁.dropLast l₂.dropLast
  | _, _, .nil => .nil
  | _, _, .cons _ .nil => .nil
  | _, _, .cons r (.cons q t) => .cons r (paired_dropLast (.cons q t))
theorem paired_map {α β γ δ : Type} {F : γ → δ → Prop} {f : α → γ} {g : β → δ} {G : α → β → Prop} (h : ∀ a b, G a b → F (f a) (g b)) : ∀ {l₁ : List α} {l₂ : List β}, Paired G l₁ l₂ → Paired F (l₁.map f) (l₂.map g)
  | _, _, .nil => .nil
  | _, _, .cons r t => .cons (h _ _ r) (paired_map h t)

section
variable {K : Frag} {H H0 H1 H' : Hp} {a p r : Addr} {M : List (List Int)} {xs : List Int}
theorem LI.mono (e : Ex H H') (h : LI K H a xs) : LI K H' a xs := ex_l e h
theorem LLI.mono (e : Ex H H') (h : LLI K H a M) : LLI K H' a M := by
  obtain ⟨as, h1, h2⟩ := h
  exact ⟨as, ex_l e h1, paired_mono h2 fun _ _ q => q.mono e⟩
theorem OLI.li (h : OLI H0 H a xs) : LI K H a xs := sq_of h.2
theorem OLLI.lli (h : OLLI H0 H a M) : LLI K H a M := by
  obtain ⟨as, _, h1, _, h2⟩ := h
  exact ⟨as, sq_of h1, paired_mono h2 fun _ _ q => q.li⟩
theorem OLI.mono (e : Ex H H') (h : OLI H0 H a xs) : OLI H0 H' a xs := ⟨h.1, e _ _ h.2⟩
theorem OLLI.mono (e : Ex H H') (h : OLLI H0 H a M) : OLLI H0 H' a M := by
  obtain ⟨as, h0, h1, hn, h2⟩ := h
  exact ⟨as, h0, e _ _ h1, hn, paired_mono h2 fun _ _ q => q.mono e⟩
/-- fresh ahead of more is fresh ahead of less -/
theorem OLI.back (e : Ex H0 H1) (h : OLI H1 H a xs) : OLI H0 H a xs := ⟨fresh_back e h.1, h.2⟩
theorem OLLI.back (e : Ex H0 H1) (h : OLLI H1 H a M) : OLLI H0 H a M := by
  obtain ⟨as, h0, h1, hn, h2⟩ := h
  exact ⟨as, fresh_back e h0, h1, hn, paired_mono h2 fun _ _ q => q.back e⟩
theorem OLLI.fresh (h : OLLI H0 H a M) : H0 a = none := by
  obtain ⟨as, h0, _⟩ := h
  exact h0
theorem OLLI.nil (h0 : H0 a = none) (h : H a = some (.lst [])) : OLLI H0 H a [] := ⟨[], h0, h, by simp, .nil⟩
/-- a row made behind Hb goes to the end -/
theorem OLLI.push {Hb Hc : Hp} {row : List Int} (h : OLLI H0 Hb p M) (e0 : Ex H0 Hb) (e : Ex Hb Hc) (hr : Hb r = none) (hrow : Hc r = some (.lst (row.map V.int))) :
    ∃ vs : List V, Hc p = some (.lst vs) ∧ vs.length = M.length ∧ OLLI H0 (upd Hc p (.lst (vs ++ [.ref r]))) p (M ++ [row]) ∧ Ex H0 (upd Hc p (.lst (vs ++ [.ref r]))) := by
  obtain ⟨as, h0, h1, hn, h2⟩ := h
  have hpr : p ≠ r := ne_of_none h1 hr
  have hnr : r ∉ as := fun hm => by
    obtain ⟨y, _, q⟩ := paired_mem h2 hm
    have := q.2
    rw [hr] at this; cases this
  rw [List.nodup_cons] at hn
  refine ⟨as.map V.ref, e _ _ h1, by rw [List.length_map, h2.length], ⟨as ++ [r], h0, ?_, ?_, paired_append (paired_mem_mono h2 fun x y hx q => ⟨q.1, ?_⟩) (.cons ⟨fresh_back e0 hr, ?_⟩ .nil)⟩, Ex.mut (e0.trans e) h0⟩
  · rw [upd_same, List.map_append]; rfl
  · rw [List.nodup_cons]
    refine ⟨fun hm => ?_, ?_⟩
    · rcases List.mem_append.mp hm with hm | hm
      · exact hn.1 hm
      · exact hpr (by simpa using hm)
    · rw [List.nodup_append]
      exact ⟨hn.2, by simp, fun x hx y hy => by
        have : y = r := by simpa using hy
        subst this
        exact fun z => hnr (z ▸ hx)⟩
  · rw [upd_ne (fun z : x = p => hn.1 (z ▸ hx))]; exact e _ _ q.2
  · rw [upd_ne hpr.symm]; exact hrow
end

/-! ### forms: n boxes, f their numbers -/
def Fm (n : Nat) (f : Nat → Nat → Int) : List (List Int) := (List.range n).map fun i => (List.range n).map (f i)
theorem range_get {n i : Nat} (h : i < n) : (List.range n)[i]? = some i := by rw [List.getElem?_range h]
theorem mapr_get {α : Type} {n i : Nat} {f : Nat → α} (h : i < n) : ((List.range n).map f)[i]? = some (f i) := by rw [List.getElem?_map, range_get h]; rfl
theorem fm_get {n i : Nat} {f : Nat → Nat → Int} (h : i < n) : (Fm n f)[i]? = some ((List.range n).map (f i)) := mapr_get h
theorem fm_len {n : Nat} {f : Nat → Nat → Int} : (Fm n f).length = n := by unfold Fm; rw [List.length_map, List.length_range]
theorem mapr_ext {α : Type} {n : Nat} {f g : Nat → α} (h : ∀ i, i < n → f i = g i) : (List.range n).map f = (List.range n).map g := List.map_congr_left fun i hi => h i (List.mem_range.mp hi)
theorem fm_ext {n : Nat} {f g : Nat → Nat → Int} (h : ∀ i j, i < n → j < n → f i j = g i j) : Fm n f = Fm n g := mapr_ext fun i hi => mapr_ext fun j hj => h i j hi hj
theorem mapr_inj {α : Type} {n m : Nat} {f g : Nat → α} (h : (List.range n).map f = (List.range m).map g) : n = m ∧ ∀ i, i < n → f i = g i := by
  have e : n = m := by simpa using congrArg List.length h
  subst e
  refine ⟨rfl, fun i hi => ?_⟩
  have := congrArg (·[i]?) h
  simp only [mapr_get hi] at this
  exact Option.some.inj this
theorem fm_inj {n m : Nat} {f g : Nat → Nat → Int} (h : Fm n f = Fm m g) : n = m ∧ ∀ i j, i < n → j < n → f i j = g i j := by
  obtain ⟨e, q⟩ := mapr_inj h
  exact ⟨e, fun i j hi hj => (mapr_inj (q i hi)).2 j hj⟩

section
variable {K : Frag} {σ : St} {H H0 H1 H' : Hp} {ta tb te ti tj : TE} {a p r : Addr} {M : List (List Int)} {xs : List Int} {x y z v : V}
theorem LLI.row (h : LLI K H a M) {i : Nat} {row : List Int} (e : M[i]? = some row) : ∃ (as : List Addr) (x : Addr), SqL K H a (as.map V.ref) ∧ as.length = M.length ∧ as[i]? = some x ∧ LI K H x row := by
  obtain ⟨as, h1, h2⟩ := h
  obtain ⟨x, e1, q⟩ := paired_get h2 e
  exact ⟨as, x, h1, h2.length, e1, q⟩
theorem atI_n {α : Type} {xs : List α} {i : Nat} {v : α} (h : xs[i]? = some v) : atI xs (i : Int) = some v := by
  unfold atI
  rw [ixN_nat (List.getElem?_eq_some_iff.mp h).1]
  exact h
theorem LI.at {i : Nat} {v : Int} (h : LI K H a xs) (e : xs[i]? = some v) : RV (rIxL K) (.ref a) (.int (i : Int)) H (.int v) := rv_ixL h (atI_n (by rw [List.getElem?_map, e]; rfl))
theorem ev_item {i : Nat} {v : Int} (ha : Ev ta σ H (.ref a)) (hi : Ev ti σ H (.int (i : Int))) (h : LI K H a xs) (e : xs[i]? = some v) : Ev (tOp (rIxL K) ta ti) σ H (.int v) := ev_op ha hi (h.at e)
theorem ev_cell {i j : Nat} {row : List Int} {v : Int} (ha : Ev ta σ H (.ref a)) (hi : Ev ti σ H (.int (i : Int))) (hj : Ev tj σ H (.int (j : Int))) (h : LLI K H a M) (e1 : M[i]? = some row) (e2 : row[j]? = some v) :
    Ev (tOp (rIxL K) (tOp (rIxL K) ta ti) tj) σ H (.int v) := by
  obtain ⟨as, x, h1, _, h3, h4⟩ := h.row e1
  exact ev_op (ev_op ha hi (rv_ixL h1 (atI_n (by rw [List.getElem?_map, h3]; rfl)))) hj (h4.at e2)
theorem ev_fm {n i j : Nat} {f : Nat → Nat → Int} (ha : Ev ta σ H (.ref a)) (hi : Ev ti σ H (.int (i : Int))) (hj : Ev tj σ H (.int (j : Int))) (h : LLI K H a (Fm n f)) (e1 : i < n) (e2 : j < n) :
    Ev (tOp (rIxL K) (tOp (rIxL K) ta ti) tj) σ H (.int (f i j)) := ev_cell ha hi hj h (fm_get e1) (mapr_get e2)
theorem ev_mod {i j : Int} (ha : Ev ta σ H (.int i)) (hb : Ev tb σ H (.int j)) (hj : 0 < j) : Ev (tOp (rI (fun _ j => j ≠ 0) fun i j => .int (i.fmod j)) ta tb) σ H (.int (i % j)) :=
  ev_op ha hb (by rw [← Int.fmod_eq_emod_of_nonneg i (Int.le_of_lt hj)]; exact rv_I (by omega))
theorem ev_div {i j : Int} (ha : Ev ta σ H (.int i)) (hb : Ev tb σ H (.int j)) (hj : 0 < j) (h2 : j < 1073741824) : Ev (tOp (rI CDivN fun i j => .int (i.fdiv j)) ta tb) σ H (.int (i / j)) :=
  ev_op ha hb (by rw [← Int.fdiv_eq_ediv_of_nonneg i (Int.le_of_lt hj)]; exact rv_I ⟨by omega, by omega⟩)
theorem ev_len1 {vs : List V} {r : List V → Hp → VK → Prop} (ha : Ev ta σ H (.ref a)) (h : SqL K H a vs) (hr : r = fun xs H Q => ∃ p ys, xs = [.ref p] ∧ (SqL K H p ys ∨ SqT K H p ys) ∧ Q (.int ys.length) H) : Ev (tCB r (tCons ta tNil)) σ H (.int (vs.length : Int)) := by
  subst hr
  exact ev_len ha h
theorem ev_lenLLI (ha : Ev ta σ H (.ref a)) (h : LLI K H a M) : Ev (tCB (rLenS K) (tCons ta tNil)) σ H (.int (M.length : Int)) := by
  obtain ⟨as, h1, h2⟩ := h
  have e := ev_len ha h1
  rw [List.length_map, h2.length] at e
  exact e
theorem ev_lenFm {n : Nat} {f : Nat → Nat → Int} (ha : Ev ta σ H (.ref a)) (h : LLI K H a (Fm n f)) : Ev (tCB (rLenS K) (tCons ta tNil)) σ H (.int (n : Int)) := by
  have e := ev_lenLLI ha h
  rw [fm_len] at e
  exact e
theorem ev_lenLI (ha : Ev ta σ H (.ref a)) (h : LI K H a xs) : Ev (tCB (rLenS K) (tCons ta tNil)) σ H (.int (xs.length : Int)) := by
  have e := ev_len ha h
  rw [List.length_map] at e
  exact e
def rAbs : List V → Hp → VK → Prop := fun xs H Q => ∃ i, xs = [.int i] ∧ Q (.int (if i < 0 then -i else i)) H
theorem ev_abs {i : Int} (ha : Ev ta σ H (.int i)) : Ev (tCB rAbs (tCons ta tNil)) σ H (.int (if i < 0 then -i else i)) := fun H1 e Q q =>
  ha H1 e _ fun H2 e2 => ⟨i, rfl, q H2 e2⟩
/-- a call of a def whose promise is told by its value -/
theorem ev_cast {w : V} (h : Ev te σ H v) (e : v = w) : Ev te σ H w := e ▸ h
end

/-! ### what is new: relations of the heap ahead, the heap behind and the value -/
abbrev R3 := Hp → Hp → V → Prop
def Er (te : TE) (σ : St) (H : Hp) (R : R3) : Prop := ∀ H1, Ex H H1 → ∀ Q : VK, (∀ v H2, Ex H1 H2 → R H1 H2 v → Q v H2) → te σ H1 Q
/-- a new list of lists of ints -/
def RM (M : List (List Int)) : R3 := fun H1 H2 v => ∃ p, v = .ref p ∧ OLLI H1 H2 p M
def RL (xs : List Int) : R3 := fun H1 H2 v => ∃ p, v = .ref p ∧ OLI H1 H2 p xs
structure Mon (R : R3) : Prop where
  up : ∀ {H1 H2 H3 v}, Ex H2 H3 → R H1 H2 v → R H1 H3 v
  dn : ∀ {H0 H1 H2 v}, Ex H0 H1 → R H1 H2 v → R H0 H2 v
theorem mon_RM {M : List (List Int)} : Mon (RM M) := ⟨fun e ⟨p, h, q⟩ => ⟨p, h, q.mono e⟩, fun e ⟨p, h, q⟩ => ⟨p, h, q.back e⟩⟩
theorem mon_RL {xs : List Int} : Mon (RL xs) := ⟨fun e ⟨p, h, q⟩ => ⟨p, h, q.mono e⟩, fun e ⟨p, h, q⟩ => ⟨p, h, q.back e⟩⟩
section
variable {K : Frag} {σ : St} {H H0 H1 H' : Hp} {ta tb te ti tj : TE} {t : TT} {a p r : Addr} {M : List (List Int)} {xs : List Int} {x y z v : V} {R : R3} {D : Ends}
theorem Er.mono (e : Ex H H') (h : Er te σ H R) : Er te σ H' R := fun H1 a Q q => h H1 (e.trans a) Q q
theorem er_of_evl (h : EvL te σ H (xs.map V.int)) : Er te σ H (RL xs) := fun H1 e Q q => h H1 e Q fun p H2 hp e2 h2 => q _ H2 e2 ⟨p, rfl, hp, h2⟩
theorem evl_of_er (h : Er te σ H (RL xs)) : EvL te σ H (xs.map V.int) := fun H1 e Q q => h H1 e Q fun v H2 e2 ⟨p, hv, h1, h2⟩ => by subst hv; exact q p H2 h1 e2 h2
theorem sr_asg {i : Nat} (h : Er te σ H R) (k : ∀ v H1, Ex H H1 → R H H1 v → D.nx (σ.set i (some v)) H1) : tAsg te (gName i) D σ H := h H (Ex.refl H) _ k
theorem qr_asg {i : Nat} {tz : TS} (h : Er te σ H R) (k : ∀ v H1, Ex H H1 → R H H1 v → tz D (σ.set i (some v)) H1) : tSeq (tAsg te (gName i)) tz D σ H := sr_asg (D := { D with nx := tz D }) h k
theorem sr_ret (h : Er te σ H R) (k : ∀ v H1, Ex H H1 → R H H1 v → D.rt v H1) : tRet te D σ H := h H (Ex.refl H) _ k
/-- a promise of a new thing -/
def SpR (sp : Sp) (vs : List V) (H : Hp) (R : R3) : Prop := ∀ H1, Ex H H1 → ∀ Q : VK, (∀ v H2, Ex H1 H2 → R H1 H2 v → Q v H2) → ∀ E : XK, sp vs H1 Q E
theorem er_call {sp : Sp} {dvs vs : List V} {E : XK} {ta : TA} (mR : Mon R) (h : EvA ta σ H vs) (hs : SpR sp (vs ++ dvs) H R) : Er (tCall sp dvs E ta) σ H R := fun H1 e Q q =>
  h H1 e _ fun H2 e2 => hs H2 (e.trans e2) Q (fun v H3 e3 r => q v H3 (e2.trans e3) (mR.dn e2 r)) E

/-! ### comprehensions whose items are new -/
/-- R is not touched by a change of what was there ahead -/
structure Mon' (R : R3) : Prop extends Mon R where
  chg : ∀ {H1 H2 v Dl o}, H1 Dl ≠ none → R H1 H2 v → R H1 (upd H2 Dl o) v
theorem ne_fresh {H1 : Hp} {p Dl : Addr} (hd : H1 Dl ≠ none) (hp : H1 p = none) : p ≠ Dl := fun z => hd (z ▸ hp)
theorem mon'_RL {xs : List Int} : Mon' (RL xs) := { mon_RL with
  chg := fun hd ⟨p, h, q⟩ => ⟨p, h, q.1, by rw [upd_ne (ne_fresh hd q.1)]; exact q.2⟩ }
theorem mon'_RM {M : List (List Int)} : Mon' (RM M) := { mon_RM with
  chg := fun hd ⟨p, h, as, h0, h1, hn2, h2⟩ => ⟨p, h, as, h0, by rw [upd_ne (ne_fresh hd h0)]; exact h1, hn2, paired_mono h2 fun x r q => ⟨q.1, by rw [upd_ne (ne_fresh hd q.1)]; exact q.2⟩⟩ }
/-- a value that is no heap's -/
def RV0 (u : V) : R3 := fun _ _ v => v = u
theorem mon'_RV0 {u : V} : Mon' (RV0 u) := ⟨⟨fun _ h => h, fun _ h => h⟩, fun _ h => h⟩
theorem er_of_ev (h : Ev te σ H v) : Er te σ H (RV0 v) := fun H1 e Q q => h H1 e Q fun H2 e2 => q v H2 e2 rfl
/-- a new tuple of such values -/
def RT (vs : List V) : R3 := fun H1 H2 v => ∃ p, v = .ref p ∧ H1 p = none ∧ H2 p = some (.tup vs)
theorem mon'_RT {vs : List V} : Mon' (RT vs) := ⟨⟨fun e ⟨p, h, h0, h1⟩ => ⟨p, h, h0, e _ _ h1⟩, fun e ⟨p, h, h0, h1⟩ => ⟨p, h, fresh_back e h0, h1⟩⟩, fun hd ⟨p, h, h0, h1⟩ => ⟨p, h, h0, by rw [upd_ne (ne_fresh hd h0)]; exact h1⟩⟩
theorem er_of_evu {vs : List V} (h : EvU te σ H vs) : Er te σ H (RT vs) := fun H1 e Q q => h H1 e Q fun p H2 hp e2 h2 => q _ H2 e2 ⟨p, rfl, hp, h2⟩

/-- what is made so far: vs, each as R says of its turn -/
def Cr (H : Hp) (f : Nat → Bool) (R : Nat → R3) (Dl : Addr) (i : Nat) (H' : Hp) : Prop := H Dl = none ∧ Ex H H' ∧ ∃ vs : List V, H' Dl = some (.lst vs) ∧ Paired (fun v j => ∃ H3, Ex H H3 ∧ H3 Dl ≠ none ∧ R j H3 H' v) vs ((List.range i).filter f)
/-- a new list whose items are as R says, one for each of idx -/
def RLs (idx : List Nat) (R : Nat → R3) : R3 := fun H1 H2 v => ∃ p vs, v = .ref p ∧ H1 p = none ∧ H2 p = some (.lst vs) ∧ Paired (fun v j => R j H1 H2 v) vs idx
theorem filt_len (f : Nat → Bool) (i : Nat) : ((List.range i).filter f).length ≤ i := by
  have h := List.length_filter_le f (List.range i)
  rw [List.length_range] at h
  exact h
theorem filt_yes {f : Nat → Bool} {i : Nat} (h : f i = true) : (List.range (i + 1)).filter f = (List.range i).filter f ++ [i] := by
  rw [List.range_succ, List.filter_append, List.filter_cons, if_pos h]; rfl
theorem filt_no {f : Nat → Bool} {i : Nat} (h : f i = false) : (List.range (i + 1)).filter f = (List.range i).filter f := by
  rw [List.range_succ, List.filter_append, List.filter_cons, if_neg (by rw [h]; decide)]
  exact List.append_nil _
theorem filt_all (i : Nat) : (List.range i).filter (fun _ => true) = List.range i := by rw [List.filter_eq_self]; intros; rfl
theorem cr_turn {H H' : Hp} {f : Nat → Bool} {R : Nat → R3} {Dl : Addr} {i : Nat} {σ2 : L2.St} (mR : ∀ j, Mon' (R j)) (p : Cr H f R Dl i H') (hi : i < 50000) (ht : EvT t σ2 H (f i)) (he : f i = true → Er te σ2 H (R i)) :
    t σ2 H' fun b H3 => if b = true then te σ2 H3 fun y H4 => ∃ acc, H4 Dl = some (.lst acc) ∧ acc.length < sizeLine ∧ Cr H f R Dl (i + 1) (upd H4 Dl (.lst (acc ++ [y]))) else Cr H f R Dl (i + 1) H3 := by
  obtain ⟨p1, p2, vs, p3, p4⟩ := p
  refine ht H' p2 _ fun H3 e3 => ?_
  cases hf : f i with
  | true =>
    show te σ2 H3 fun y H4 => ∃ acc, H4 Dl = some (.lst acc) ∧ acc.length < sizeLine ∧ Cr H f R Dl (i + 1) (upd H4 Dl (.lst (acc ++ [y])))
    refine he hf H3 (p2.trans e3) _ fun v H4 e4 r => ⟨vs, e4 Dl _ (e3 Dl _ p3), sz_lt (by have := filt_len f i; rw [← p4.length] at this; omega), p1, Ex.mut ((p2.trans e3).trans e4) p1, vs ++ [v], upd_same, ?_⟩
    rw [filt_yes hf]
    have nd : H3 Dl ≠ none := by rw [e3 Dl _ p3]; exact fun z => nomatch z
    exact paired_append (paired_mono p4 fun v j ⟨Hz, z1, z2, z3⟩ => ⟨Hz, z1, z2, (mR j).chg z2 ((mR j).up (e3.trans e4) z3)⟩) (.cons ⟨H3, p2.trans e3, nd, (mR i).chg nd r⟩ .nil)
  | false =>
    show Cr H f R Dl (i + 1) H3
    refine ⟨p1, p2.trans e3, vs, e3 Dl _ p3, ?_⟩
    rw [filt_no hf]
    exact paired_mono p4 fun v j ⟨Hz, z1, z2, z3⟩ => ⟨Hz, z1, z2, (mR j).up e3 z3⟩
theorem cr_end {H1 H' : Hp} {f : Nat → Bool} {R : Nat → R3} {Dl : Addr} {n : Nat} (mR : ∀ j, Mon' (R j)) (e1 : Ex H H1) (p : Cr H1 f R Dl n H') : Ex H H' ∧ RLs ((List.range n).filter f) R H H' (.ref Dl) := by
  obtain ⟨p1, p2, vs, p3, p4⟩ := p
  exact ⟨e1.trans p2, Dl, vs, rfl, fresh_back e1 p1, p3, paired_mono p4 fun v j ⟨Hz, z1, z2, z3⟩ => (mR j).dn (e1.trans z1) z3⟩
/-- [te for j in range(n) if t] -/
theorem er_lcR {ta : TA} {j : Nat} {vs : List Nat} {n : Int} (f : Nat → Bool) (R : Nat → R3) (mR : ∀ j, Mon' (R j)) (h : EvA ta σ H [.int n]) (hn : 0 ≤ n ∧ n ≤ 40000) (hw : ∀ x, wipe ((wipe σ vs).set j (some x)) vs = wipe σ vs)
    (ht : ∀ (i : Nat) H1, Ex H H1 → (i : Int) < n → EvT t ((wipe σ vs).set j (some (.int (i : Int)))) H1 (f i)) (he : ∀ (i : Nat) H1, Ex H H1 → (i : Int) < n → f i = true → Er te ((wipe σ vs).set j (some (.int (i : Int)))) H1 (R i)) :
    Er (tLc (iRng1 ta) (gName j) t te vs) σ H (RLs ((List.range n.toNat).filter f) R) := fun H0 e Q q => h H0 e _ fun H1 e1 => ⟨n, rfl, by omega, by omega, fun Dl hD =>
  lc_range (lo := 0) (n := n.toNat) (Cr H1 f R Dl) ⟨hD, Ex.new hD, [], upd_same, .nil⟩ (fun i H' hi p => by
    have e0 : (0 : Int) + (i : Int) = (i : Int) := Int.zero_add _
    rw [e0]
    exact ⟨hw _, cr_turn mR p (by omega) (ht i H1 (e.trans e1) (by omega)) (fun hf => he i H1 (e.trans e1) (by omega) hf)⟩) (fun H' p => by
    obtain ⟨q1, q2⟩ := cr_end mR e1 p
    exact q _ H' q1 q2)⟩
/-- over a list that stands -/
theorem er_lcL {a : Addr} {xs : List V} {tl : TE} {j : Nat} {vs : List Nat} (f : Nat → Bool) (R : Nat → R3) (mR : ∀ j, Mon' (R j)) (h : Ev tl σ H (.ref a)) (hx : SqL K H a xs) (hz : xs.length ≤ 40000) (hw : ∀ x, wipe ((wipe σ vs).set j (some x)) vs = wipe σ vs)
    (ht : ∀ (i : Nat) (x : V) H1, Ex H H1 → xs[i]? = some x → EvT t ((wipe σ vs).set j (some x)) H1 (f i)) (he : ∀ (i : Nat) (x : V) H1, Ex H H1 → xs[i]? = some x → f i = true → Er te ((wipe σ vs).set j (some x)) H1 (R i)) :
    Er (tLc (iList K tl) (gName j) t te vs) σ H (RLs ((List.range xs.length).filter f) R) := fun H0 e Q q => h H0 e _ fun H1 e1 => ⟨a, rfl, ⟨xs, ex_l (e.trans e1) hx⟩, fun Dl hD =>
  lc_list (xs := xs) (Cr H1 f R Dl) ⟨hD, Ex.new hD, [], upd_same, .nil⟩ (fun i H' _ p => ex_l ((e.trans e1).trans p.2.1) hx) (fun i x H' hi p => ⟨hw x, cr_turn mR p (by have := (List.getElem?_eq_some_iff.mp hi).1; omega) (ht i x H1 (e.trans e1) hi) (fun hf => he i x H1 (e.trans e1) hi hf)⟩)
    (fun H' p => by
      obtain ⟨q1, q2⟩ := cr_end mR e1 p
      exact q _ H' q1 q2)⟩
/-- over a list that the reading makes -/
theorem er_lcN {R0 : R3} {tl : TE} {j n : Nat} {vs : List Nat} (f : Nat → Bool) (R : Nat → R3) (mR : ∀ j, Mon' (R j)) (h : Er tl σ H R0) (hz : n ≤ 40000) (hw : ∀ x, wipe ((wipe σ vs).set j (some x)) vs = wipe σ vs)
    (hs : ∀ H1 H2 v, Ex H H1 → Ex H1 H2 → R0 H1 H2 v → ∃ a xs, v = .ref a ∧ SqL K H2 a xs ∧ xs.length = n ∧ ∀ (i : Nat) x H3, xs[i]? = some x → Ex H2 H3 → EvT t ((wipe σ vs).set j (some x)) H3 (f i) ∧ (f i = true → Er te ((wipe σ vs).set j (some x)) H3 (R i))) :
    Er (tLc (iList K tl) (gName j) t te vs) σ H (RLs ((List.range n).filter f) R) := fun H0 e Q q => h H0 e _ fun v H1 e1 r => by
  obtain ⟨a, xs, ev, hx, hn, hi⟩ := hs H0 H1 v e e1 r
  subst ev
  subst hn
  exact ⟨a, rfl, ⟨xs, hx⟩, fun Dl hD =>
    lc_list (xs := xs) (Cr H1 f R Dl) ⟨hD, Ex.new hD, [], upd_same, .nil⟩ (fun i H' _ p => ex_l p.2.1 hx) (fun i x H' hj p => ⟨hw x, cr_turn mR p (by have := (List.getElem?_eq_some_iff.mp hj).1; omega) ((hi i x H1 hj (Ex.refl _)).1) (fun hf => (hi i x H1 hj (Ex.refl _)).2 hf)⟩)
      (fun H' p => by
        obtain ⟨q1, q2⟩ := cr_end mR e1 p
        exact q _ H' q1 q2)⟩

/-! ### a list of new rows -/
def Cm (H : Hp) (g : Nat → List Int) (Dl : Addr) (i : Nat) (H' : Hp) : Prop := Ex H H' ∧ OLLI H H' Dl ((List.range i).map g)
theorem cm_turn {H H' : Hp} {g : Nat → List Int} {Dl : Addr} {i : Nat} {σ2 : L2.St} (p : Cm H g Dl i H') (hi : i < 50000) (he : Er te σ2 H (RL (g i))) :
    tYes σ2 H' fun b H3 => if b = true then te σ2 H3 fun y H4 => ∃ acc, H4 Dl = some (.lst acc) ∧ acc.length < sizeLine ∧ Cm H g Dl (i + 1) (upd H4 Dl (.lst (acc ++ [y]))) else Cm H g Dl (i + 1) H3 := by
  obtain ⟨p1, p2⟩ := p
  show te σ2 H' fun y H4 => ∃ acc, H4 Dl = some (.lst acc) ∧ acc.length < sizeLine ∧ Cm H g Dl (i + 1) (upd H4 Dl (.lst (acc ++ [y])))
  refine he H' p1 _ fun v H4 e4 ⟨r, hv, hr1, hr2⟩ => ?_
  subst hv
  obtain ⟨vs, h1, h2, h3, h4⟩ := p2.push p1 e4 hr1 hr2
  refine ⟨vs, h1, sz_lt (by rw [h2, List.length_map, List.length_range]; omega), h4, ?_⟩
  rw [List.range_succ, List.map_append]
  exact h3
theorem em_lcR {ta : TA} {j : Nat} {vs : List Nat} {n : Int} (g : Nat → List Int) (h : EvA ta σ H [.int n]) (hn : 0 ≤ n ∧ n ≤ 40000) (hw : ∀ x, wipe ((wipe σ vs).set j (some x)) vs = wipe σ vs)
    (he : ∀ (i : Nat) H1, Ex H H1 → (i : Int) < n → Er te ((wipe σ vs).set j (some (.int (i : Int)))) H1 (RL (g i))) :
    Er (tLc (iRng1 ta) (gName j) tYes te vs) σ H (RM ((List.range n.toNat).map g)) := fun H0 e Q q => h H0 e _ fun H1 e1 => ⟨n, rfl, by omega, by omega, fun Dl hD =>
  lc_range (lo := 0) (n := n.toNat) (Cm H1 g Dl) ⟨Ex.new hD, .nil hD upd_same⟩ (fun i H' hi p => by
    have e0 : (0 : Int) + (i : Int) = (i : Int) := Int.zero_add _
    rw [e0]
    exact ⟨hw _, cm_turn p (by omega) (he i H1 (e.trans e1) (by omega))⟩) (fun H' p => q _ H' (e1.trans p.1) ⟨Dl, rfl, p.2.back e1⟩)⟩
theorem em_lcL {a : Addr} {xs : List V} {tl : TE} {j : Nat} {vs : List Nat} (g : Nat → List Int) (h : Ev tl σ H (.ref a)) (hx : SqL K H a xs) (hz : xs.length ≤ 40000) (hw : ∀ x, wipe ((wipe σ vs).set j (some x)) vs = wipe σ vs)
    (he : ∀ (i : Nat) (x : V) H1, Ex H H1 → xs[i]? = some x → Er te ((wipe σ vs).set j (some x)) H1 (RL (g i))) :
    Er (tLc (iList K tl) (gName j) tYes te vs) σ H (RM ((List.range xs.length).map g)) := fun H0 e Q q => h H0 e _ fun H1 e1 => ⟨a, rfl, ⟨xs, ex_l (e.trans e1) hx⟩, fun Dl hD =>
  lc_list (xs := xs) (Cm H1 g Dl) ⟨Ex.new hD, .nil hD upd_same⟩ (fun i H' _ p => ex_l ((e.trans e1).trans p.1) hx) (fun i x H' hi p => ⟨hw x, cm_turn p (by have := (List.getElem?_eq_some_iff.mp hi).1; omega) (he i x H1 (e.trans e1) hi)⟩)
    (fun H' p => q _ H' (e1.trans p.1) ⟨Dl, rfl, p.2.back e1⟩)⟩
end
end AT

/-! ## the rules with the written part named -/
namespace AT
open PySem PySem.Spec PyProof.Rows L2 Evl
section
variable {X : Cx} {tg : Expr}
theorem lenK (K : Frag) (h : X.K = K := by rfl) : CallR X (.builtin "len") (rLenS K) := by subst h; exact call_len_seq
theorem listK (K : Frag) (h : X.K = K := by rfl) : CallR X (.type "list") (rListS K) := by subst h; exact call_list_of
def rTupS (K : Frag) : List V → Hp → VK → Prop := fun xs H Q => ∃ p ys, xs = [.ref p] ∧ ((SqL K H p ys ∧ ∀ l, H l = none → Q (.ref l) (upd H l (.tup ys))) ∨ (SqT K H p ys ∧ Q (.ref p) H))
theorem tupK (K : Frag) (h : X.K = K := by rfl) : CallR X (.type "tuple") (rTupS K) := by subst h; exact call_tuple_of
theorem absK : CallR X (.builtin "abs") rAbs := call_abs
theorem isiK (K : Frag) (h : X.K = K := by rfl) : CallR X (.builtin "isinstance") (rIsi K) := by subst h; exact call_isi
theorem ixL (K : Frag) (h : X.K = K := by rfl) : IxR X (rIxL K) := by subst h; exact ix_list
theorem ixT (K : Frag) (h : X.K = K := by rfl) : IxR X (rIxT K) := by subst h; exact ix_tup
theorem slL (K : Frag) (h : X.K = K := by rfl) : SlR X (rSlL K) := by subst h; exact sl_list
theorem inK (K : Frag) (h : X.K = K := by rfl) : OpR X (compareOp .In) (rIn K false) := by subst h; exact op_in_seq
theorem ninK (K : Frag) (h : X.K = K := by rfl) : OpR X (compareOp .NotIn) (rIn K true) := by subst h; exact op_notIn_seq
theorem eqDK (K : Frag) (hu : X.A.units + 64 < cLine) (h : X.K = K := by rfl) : OpR X (compareOp .Eq) (rEqD K) := by subst h; exact op_eqD hu
theorem neDK (K : Frag) (hu : X.A.units + 64 < cLine) (h : X.K = K := by rfl) : OpR X (compareOp .NotEq) (rNeD K) := by subst h; exact op_neD hu
theorem sumK (K : Frag) (hc : X.calm = true) (h : X.K = K := by rfl) : CallR X (.builtin "sum") (rSum K) := by subst h; exact cr_sum hc
theorem maxK (K : Frag) (hc : X.calm = true) (h : X.K = K := by rfl) : CallR X (.builtin "max") (rMax K) := by subst h; exact cr_max hc
theorem minK (K : Frag) (hc : X.calm = true) (h : X.K = K := by rfl) : CallR X (.builtin "min") (rMin K) := by subst h; exact cr_min hc
theorem allK (K : Frag) (hc : X.calm = true) (h : X.K = K := by rfl) : CallR X (.builtin "all") (rAll K) := by subst h; exact cr_all hc
theorem sortedK (K : Frag) (h : X.K = K := by rfl) : CallR X (.builtin "sorted") (rSorted K) := by subst h; exact cr_sorted
theorem pi_listK (K : Frag) {l : Expr} {tl : TE} (hl : PE X l tl) (h : X.K = K := by rfl) : PI X tg l (iList K tl) := by subst h; exact pi_list hl
theorem pi_tupK (K : Frag) {l : Expr} {tl : TE} (hl : PE X l tl) (h : X.K = K := by rfl) : PI X tg l (iTup K tl) := by subst h; exact pi_tup hl
theorem mt_indexK (K : Frag) (h : X.K = K := by rfl) : MtR X "list.index" (rIndex K) := by subst h; exact mt_index
theorem pi_zipK (K : Frag) {e e2 : Expr} {ta : TA} {p pos tpos : Pos} {elts : List Expr} {kk : Nat} (hg : Gl X "zip") (hm : X.mg "zip" = none) (ha : PA X [e, e2] ta) (h : X.K = K := by rfl)
    (hs : starEach [e, e2] X.env = (false, eval e X.env) :: starEach [e2] X.env := by rfl) (hpl : (backTo pos (starEach [e2] X.env)).any (·.1) = false := by rfl) :
    PI X (.Tuple elts kk tpos) (.Call (.Name "zip" p) [e, e2] [] pos) (iZip K ta) := by subst h; exact pi_zip hg hm ha hs hpl
theorem pg_tupK (K : Frag) {es : List Expr} {k : Nat} {t : TGs} {n : Nat} {pos : Pos} (hc : X.calm = true) (hp : PGs X es t) (h : X.K = K := by rfl)
    (hn : (assignEach es X.env).length = n := by rfl) (hst : (assignEach es X.env).findIdx? (·.1) = none := by rfl) : PG X (.Tuple es k pos) (gTup K n t) := by subst h; exact pg_tup hc hp hn hst
section
variable {o e : Expr} {es : List Expr} {to : TE} {t : TA} {name : Str} {apos cpos : Pos} {T id : String} {r : V → List V → Hp → VK → Prop}
theorem bm0K (K : Frag) (pa : PlainAttrs T) (slot : Slot T name id) (hty : typeOf (.builtin id) = pure (.type "method_descriptor")) (hm : MtR X id r) (ho : PE X o to) (h : X.K = K := by rfl)
    (hbase : attributeBase o name X.env (eval o X.env) = eval o X.env := by rfl) (hline : (apos.endLine == cpos.line) = true := by rfl) : PE X (.Call (.Attribute o name apos) [] [] cpos) (tBM0 K T r to) := by subst h; exact pe_bm0 pa slot hty hm ho hbase hline
theorem bmK (K : Frag) (pa : PlainAttrs T) (slot : Slot T name id) (hty : typeOf (.builtin id) = pure (.type "method_descriptor")) (hm : MtR X id r) (ho : PE X o to) (ha : PA X (e :: es) t) (h : X.K = K := by rfl)
    (hbase : attributeBase o name X.env (eval o X.env) = eval o X.env := by rfl)
    (hfew : ((backTo cpos (starEach (e :: es) X.env)).all (fun x => !x.1) && (backToKw cpos (keywordEach [] X.env)).all (fun x => x.1.isSome)
      && decide ((e :: es).length + ([] : List Keyword).length + (if ([] : List Keyword).isEmpty then 0 else 1) < 30)) = true := by rfl)
    (hline : (apos.endLine == cpos.line) = true := by rfl) (hs : starEach (e :: es) X.env = (false, eval e X.env) :: starEach es X.env := by rfl) (hplain : (backTo cpos (starEach es X.env)).any (·.1) = false := by rfl) :
    PE X (.Call (.Attribute o name apos) (e :: es) [] cpos) (tBM K T r to t) := by subst h; exact pe_bm pa slot hty hm ho ha hbase hfew hline hs hplain
end
end
end AT

/-! ## own exception classes, raised, caught, looked at in a def that the suite calls -/
namespace AT
open PySem PySem.Spec PyProof.Rows L2 Evl L2H
/-- what the top has left of an own exception class without text of its own -/
structure ExcF (K : Frag) (mg : Str → Option Value) (x : Str) (C : Addr) : Prop where
  g : mg x = some (.ref C)
  xn : PySem.W.excIn K C [.type "ValueError", .type "Exception", .type "BaseException", .type "object"] "ValueError.__new__" = true
  kp : PySem.W.keepIn K (.ref C) = true
  bs : PySem.W.subIn K (.ref C) (.type "BaseException") = some true
  ty : PySem.W.typeIn K (.ref C) = some (.type "type")
  ic : PySem.W.isClsIn K C = true
  hg : PySem.W.findIn K (.ref C) "__getattribute__" = some (some (.builtin "BaseException.__getattribute__"))
  hk : PySem.W.findIn K (.ref C) "__getattr__" = some none
  hd : PySem.W.hasDictIn K C = true
  ha : PySem.W.findIn K (.ref C) "__class__" = some (some (.builtin "object.__class__"))
  hn : PySem.W.specialIn K (.builtin "object.__class__") "__get__" = some (some (.builtin "getset_descriptor.__get__"))
  ht : PySem.W.takesIn K (.builtin "object.__class__") = some true
  hm : PySem.W.mroIn K C (.type "object") = some true
  vs : PySem.W.subIn K (.ref C) (.type "ValueError") = some true
section
variable {K : Frag} {mg : Str → Option Value} {x : Str} {C D : Addr}
theorem ExcF.excC (F : ExcF K mg x C) : ExcC K C := ⟨F.hg, F.hk, F.bs, F.hd, F.ha, F.hn, F.ht, F.hm⟩
theorem ExcF.cls (F : ExcF K mg x C) : ((PySem.W.clsIn K C).isSome && PySem.W.typeIn K (.ref C) == some (.type "type")) = true := by
  have h2 : (PySem.W.clsIn K C).isSome = true := F.ic
  rw [h2, F.ty] <;> rfl
theorem ExcF.exm (F : ExcF K mg x C) {cls : Value} {b : Bool} (h : PySem.W.subIn K cls (.ref C) = some b) : PySem.W.exmOne K cls (.ref C) = some b := by
  have e1 : (PySem.W.subIn K (.ref C) (.type "BaseException") == some true) = true := by rw [F.bs] <;> rfl
  show (if (PySem.W.subIn K (.ref C) (.type "BaseException") == some true) = true then (if ((PySem.W.clsIn K C).isSome && PySem.W.typeIn K (.ref C) == some (.type "type")) = true then PySem.W.subIn K cls (.ref C) else none) else none) = some b
  rw [if_pos e1, if_pos F.cls]
  exact h
theorem ExcF.kit (F : ExcF K mg x C) {b : Bool} (h : PySem.W.subIn K (.ref D) (.ref C) = some b) (hd : D = C → b = true) : PySem.W.kitOne K (.ref D) (.ref C) = some b := by
  unfold PySem.W.kitOne
  by_cases e : D = C
  · subst e
    rw [if_pos (by simp), hd rfl]
  · rw [if_neg (by simp [e])]
    show (if ((PySem.W.clsIn K C).isSome && PySem.W.typeIn K (.ref C) == some (.type "type")) = true then PySem.W.subIn K (.ref D) (.ref C) else none) = some b
    rw [if_pos F.cls]
    exact h
theorem ExcF.kitV (F : ExcF K mg x C) : PySem.W.kitOne K (.ref C) (.type "ValueError") = some true := by
  unfold PySem.W.kitOne
  rw [if_neg (by simp)]
  show (if PySem.W.kitMeta "ValueError" = true then PySem.W.subIn K (.ref C) (.type "ValueError") else none) = some true
  rw [if_pos (by decide +kernel)]
  exact F.vs
end

/-! ### a def that is called with the exception at hand -/
structure FnE (P : Program) (w : World) (K : Frag) (mg : Str → Option Value) (base : Heap) (k : Nat) (f : Addr) (fd : FuncData) (ps : List Str) (sp : Addr → Value → Option Addr → Sp) : Prop where
  len : ∀ a c d vs H Q E, sp a c d vs H Q E → vs.length = ps.length
  run : ∀ (A : Around) (outer : List Env) (s : Shared) (H : Hp) (args : Args) (us : List Value) (vs : List V) (Q : VK) (E : XK) (p : Addr × Obj) (c : Value) (d : Option Addr), Zc c d p.2 → (∃ fv, p.2.data = .fields fv) → RoomH k A → PinOk outer H s p → Env0 P w K mg base A outer s H → BindsTo s fd args (ps.zip us) → Vals vs us → sp p.1 c d vs H Q E →
    codeAny (model P w) A (.call (.ref f) args) (CR CX0 outer P w H s Q E) s
theorem fn_ofE {P : Program} {w : World} {K : Frag} {mg : Str → Option Value} {base : Heap} {k : Nat} {f : Addr} {name qual : Str} {params : Arguments} {body : List Stmt} {scope : Scope} {dV kV doc pm cdv ct oc : Value} {an od : Option Addr}
    {osl : Array (Option Value)} {N ps : List Str} {sp : Addr → Value → Option Addr → Sp} (lk : K.lookup f = some ⟨oc, od, .func (PySem.W.fnOf name qual params body scope dV kV doc pm an cdv ct), osl⟩) (hcd : PySem.W.codeIn K cdv qual = true) (S : FnScope N ps scope)
    (len : ∀ a c d vs H Q E, sp a c d vs H Q E → vs.length = ps.length)
    (hbody : ∀ (A : Around) (outer : List Env) (s : Shared) (H : Hp) (vs : List V) (Q : VK) (E : XK) (p : Addr × Obj) (c : Value) (d : Option Addr), Zc c d p.2 → (∃ fv, p.2.data = .fields fv) → RoomH k (A.deeper (envOfC qual scope s.heap.objs.size f cdv)) → sp p.1 c d vs H Q E →
      ∃ t, PSs (cxH CX0 P w K mg base N qual scope f cdv A outer s H E p) body t ∧ t { nx := fun _ H' => Q .non H', rt := Q } (L2.start N vs) H) :
    FnE P w K mg base (k + 1) f (PySem.W.fnOf name qual params body scope dV kV doc pm an cdv ct) ps sp := by
  refine ⟨len, fun A outer s H args us vs Q E p c d hz hf hr hpin e0 hb r hsp => ?_⟩
  have hl := len _ _ _ _ _ _ _ hsp
  have KX : K.In s.heap := e0.mod.kin.keeps fun b o e => (e0.bs b o e).1
  have lim : s.heap.NoLimit := e0.mod.nolimit.keeps fun b o e => (e0.bs b o e).1
  have hkind : ∀ y ∈ ps.zip us, scope.names.lookup y.1 = some .local ∨ (scope.names.lookup y.1 = some .cell ∧ ((cellsFrom (s.heap.objs.size + 1) scope.names []).lookup y.1).isSome = true) := fun ⟨n, v⟩ hy => by
    rcases S.par n (List.of_mem_zip hy).1 with q | q
    · exact .inl q
    · exact .inr ⟨q, PySem.W.cellsFrom_some _ _ _ (.inl q)⟩
  refine codeAny_call_function hr.depth (KX _ _ lk) rfl S.co S.gen rfl (PySem.W.codeRec_of KX hcd) (hb _ _ _ _ ?_)
  refine wpAny_newFunctionEnv_cells S.kind hkind fun env he s1 x => ?_
  subst he
  refine ⟨lim.keeps x.toInCall.keep, codeAny_func ?_⟩
  obtain ⟨t, ht, hq⟩ := hbody A outer s H vs Q E p c d hz hf (hr.deeper _) hsp
  have I : Inv (cxH CX0 P w K mg base N qual scope f cdv A outer s H E p) [] (L2.start N vs) H s1 := inv_startH S hpin e0 hl r x
  refine wpAny_mono (ht.run [] s1 (L2.start N vs) H _ I hq) (fun fl s' hs => ?_) fun e s' hs => hs
  have fin : ∀ {σ' : L2.St} {H' : Hp} {v : V} {u : Value}, Inv (cxH CX0 P w K mg base N qual scope f cdv A outer s H E p) [] σ' H' s' → RelV v u → Q v H' → CE outer P w H s Q u s' :=
    fun {σ' H' v u} J rv q => ⟨v, H', J.os, J.bare, J.base, J.hok, rv, q⟩
  cases fl with
  | ret u =>
    obtain ⟨v, σ', H', J, rv, q⟩ := hs
    exact fin J rv q
  | next =>
    obtain ⟨σ', H', J, q⟩ := hs
    exact fin (v := V.non) (u := Value.none) J rfl q
  | brk =>
    obtain ⟨_, _, _, q⟩ := hs
    exact False.elim q
  | cont =>
    obtain ⟨_, _, _, q⟩ := hs
    exact False.elim q
theorem Fun.okE {P : Program} {w : World} {K : Frag} {mg : Str → Option Value} {base : Heap} {x qual : Str} {st : Stmt} {f : Addr} {fd : FuncData} {N ps : List Str} {k : Nat} {sp : Addr → Value → Option Addr → Sp} (F : Fun K x qual st f fd) (S : FnScope N ps (defScope st)) (len : ∀ a c d vs H Q E, sp a c d vs H Q E → vs.length = ps.length)
    (hbody : ∀ (cdv : Value) (A : Around) (outer : List Env) (s : Shared) (H : Hp) (vs : List V) (Q : VK) (E : XK) (p : Addr × Obj) (c : Value) (d : Option Addr), Zc c d p.2 → (∃ fv, p.2.data = .fields fv) → RoomH k (A.deeper (envOfC qual (defScope st) s.heap.objs.size f cdv)) → sp p.1 c d vs H Q E →
      ∃ t, PSs (cxH CX0 P w K mg base N qual (defScope st) f cdv A outer s H E p).nox (defBody st) t ∧ t { nx := fun _ H' => Q .non H', rt := Q } (L2.start N vs) H) : FnE P w K mg base (k + 1) f fd ps sp := by
  obtain ⟨oc, od, kV, doc, pm, an, cdv, ct, osl, rfl, lk, hcd⟩ := F.ex
  refine fn_ofE lk hcd S len fun A outer s H vs Q E p c d hz hf hr hsp => ?_
  obtain ⟨t, h, q⟩ := hbody cdv A outer s H vs Q E p c d hz hf hr hsp
  exact ⟨t, h.nox, q⟩
section
variable {X : Cx} {k : Nat} {f : Addr} {fd : FuncData} {ps : List Str} {sp : Addr → Value → Option Addr → Sp} {x : Str} {q pos : Pos} {e : Expr} {es : List Expr} {t : TA}
/-- f(e), e the exception that the suite holds -/
def tCallE (sp : Sp) (t : TA) : TE := fun σ H Q => t σ H fun vs H1 => sp vs H1 Q E0
theorem pe_callE {a : Addr} {oe : Obj} {c : Value} {d : Option Addr} (hz : Zc c d oe) (hf : ∃ fv, oe.data = .fields fv) (F : FnE X.prog X.w X.K X.mg X.base k f fd ps sp) (hr : RoomH k X.A) (hp : (a, oe) ∈ X.pn) (hg : Gl X x) (hm : X.mg x = some (.ref f)) (hk : PySem.W.keepIn X.K (.ref f) = true) (hb : Binds X.K fd ps [])
    (ha : PA X (e :: es) t) (hdb : (x == ("__debug__" : Str)) = false := by decide) (he : starEach (e :: es) X.env = (false, eval e X.env) :: starEach es X.env := by rfl) (hpl : (backTo pos (starEach es X.env)).any (·.1) = false := by rfl) :
    PE X (.Call (.Name x q) (e :: es) [] pos) (tCallE (sp a c d) t) := by
  refine ⟨fun pins s σ H Q I h => ?_⟩
  refine wpAny_Call_Name_kw (ld_glob I hg hm ?_ hdb)
  refine PySem.W.callWith_K (h₀ := X.base) I.ok.mod.kin hk (thn (ha.run pos pins s σ H _ I h) fun us s1 ⟨vs, H1, I1, r, q⟩ => ⟨I1.kIn, ?_⟩) he hpl
  have hl : us.length = ps.length := by rw [← r.length]; exact F.len _ _ _ _ _ _ _ q
  have b := hb s1 us I1.kIn (by rw [List.append_nil]; exact hl)
  rw [List.append_nil] at b
  have P1 := I1.pin (a, oe) (List.mem_append_left _ hp)
  have hpin : PinOk X.stack H1 s1 (a, oe) := ⟨P1.1, P1.2.1, fun hm => (List.mem_cons.mp (I1.stkSub a hm)).elim P1.2.2.1 P1.2.2.2.1, P1.2.2.2.2⟩
  refine wpAny_call (codeAny_mono (F.run X.A X.stack s1 H1 ⟨us, []⟩ us vs Q E0 (a, oe) c d hz hf hr hpin I1.env0 b r q) fun r s' hq => ?_)
  cases r with
  | error e => exact False.elim hq
  | ok fl =>
    cases fl with
    | ret u => exact I1.after hq
    | next => exact False.elim hq
    | brk => exact False.elim hq
    | cont => exact False.elim hq
/-- isinstance(e, C) there -/
theorem call_isP {a D : Addr} {oe : Obj} (K : Frag) (hp : (a, oe) ∈ X.pn) (C : ExcC K D) (hz : Zc (.ref D) none oe) (hf : ∃ vs, oe.data = .fields vs) (hK : X.K = K := by rfl) : CallR X (.builtin "isinstance") (rIsE K D a) := by
  subst hK
  intro pins s σ H xs us Q I r h
  obtain ⟨c, cv, b, rfl, hcv, e, q⟩ := h
  cases r with
  | cons rx rr =>
    cases rr with
    | cons rt rr =>
      cases rr
      cases rx
      have ec := hcv _ rt
      subst ec
      obtain ⟨hget, _⟩ := I.pin (a, oe) (List.mem_append.mpr (.inl hp))
      obtain ⟨vs, hv⟩ := hf
      have J : PySem.W.InstAt s.heap a oe D none := by
        obtain ⟨oc, od, oda, osl⟩ := oe
        obtain ⟨h1, h2⟩ := hz
        dsimp only at h1 h2 hv
        subst h1 h2 hv
        exact ⟨hget, rfl, rfl, trivial⟩
      exact PySem.W.kia_one (PySem.W.handS_kitx_exc C.hg C.hk C.hs C.hd C.ha C.hn C.ht C.hm) I.kIn J e (fun z => nomatch z) fun tk => ⟨.bl b, H, I.kept (t' := tk) fun _ _ z => z, rfl, q⟩
end

/-! ### list.count(True) of a list of truth values -/
def eqb (b : Bool) (v : Value) : Bool := v == .bool b
def rCntB (K : Frag) : V → List V → Hp → VK → Prop := fun x xs H Q => ∃ (p : Addr) (ns : List Bool) (k : Bool), x = .ref p ∧ xs = [.bl k] ∧ SqL K H p (ns.map V.bl) ∧ Q (.int (ns.count k : Nat)) H
theorem bools_of : ∀ {ns : List Bool} {us : List Value}, Vals (ns.map V.bl) us → us = ns.map Value.bool
  | [], _, .nil => rfl
  | n :: ns, _, .cons r t => by
    cases (show _ = Value.bool n from r)
    rw [bools_of t]; rfl
theorem bools_count (k : Bool) : ∀ ns : List Bool, (ns.map Value.bool).countP (eqb k) = ns.count k
  | [] => rfl
  | n :: ns => by
    rw [List.map_cons, List.countP_cons, List.count_cons, bools_count k ns]
    congr 1
    cases n <;> cases k <;> rfl
theorem mt_countB {X : Cx} (K : Frag) (hK : X.K = K := by rfl) : MtR X "list.count" (rCntB K) := by
  subst hK
  intro pins s σ H x xs v us Q I rx rxs h
  obtain ⟨p, ns, k, rfl, rfl, hs, q⟩ := h
  cases rx
  obtain ⟨u, rfl, ru⟩ := rxs.one
  cases (show u = Value.bool k from ru)
  obtain ⟨its, rv, ⟨⟨cls, dd, data, sl⟩, n, ho, hc, hdn, hd⟩, hlen⟩ := I.list hs
  simp only at hc hd
  subst hc hd
  have hi := bools_of rv
  subst hi
  refine call_meets PySem.F.slot_list_count ⟨_, ho, rfl⟩ PySem.F.entry_list_count (PySem.F.args_list_count_2 _ _)
    (SeqAt.list_countAt p (ns.map Value.bool).toArray n dd sl (.bool k) (eqb k)) ⟨ho, fun y hy => ?_, ?_⟩
  · obtain ⟨b, _, rfl⟩ := List.mem_map.mp (show y ∈ ns.map Value.bool by simpa using hy)
    have e := eqAt_V (A := X.A.in1) (s := s) (y := .bl b) (x := .bl k) (u := .bool b) (v := .bool k) rfl rfl rfl rfl
    have e2 : eqV (.bl b) (.bl k) = eqb k (.bool b) := by cases b <;> cases k <;> rfl
    rw [e2] at e
    exact e
  · have ec : (ns.map Value.bool).toArray.toList.countP (eqb k) = ns.count k := by
      rw [List.toList_toArray]
      exact bools_count k ns
    refine ⟨.int (ns.count k : Nat), H, I.tok _, ⟨s.toks, ?_⟩, q⟩
    show Value.int (((ns.map Value.bool).toArray.toList.countP (eqb k) : Nat) : Int) s.toks = Value.int ((ns.count k : Nat) : Int) s.toks
    rw [ec]
end AT

/-! ## more of the layer: stores into rows, menus, zip, ==, isinstance -/
namespace AT
open PySem PySem.Spec PyProof.Rows L2 Evl
abbrev E00 : Hp := fun _ => none
theorem ex_E00 {H : Hp} : Ex E00 H := fun _ _ h => by cases h
/-- a tracked list of lists, all apart -/
abbrev TLL (H : Hp) (a : Addr) (M : List (List Int)) : Prop := OLLI E00 H a M
theorem OLLI.tll {H0 H : Hp} {a : Addr} {M : List (List Int)} (h : OLLI H0 H a M) : TLL H a M := h.back ex_E00
section
variable {K : Frag} {σ : St} {H H0 H1 H' : Hp} {ta tb tc te ti tj tv : TE} {t : TT} {a b p r : Addr} {M : List (List Int)} {xs : List Int} {x y z v : V} {R : R3} {D : Ends} {tu tz : TS}

/-- M[i][j] = v -/
def setM (M : List (List Int)) (i j : Nat) (v : Int) : List (List Int) := M.set i ((M.getD i []).set j v)
theorem OLLI.store {i j : Nat} {row : List Int} {w : Int} (h : OLLI H0 H p M) (e : M[i]? = some row) : ∃ (as : List Addr) (x : Addr), H p = some (.lst (as.map V.ref)) ∧ as[i]? = some x ∧ H0 x = none ∧ H x = some (.lst (row.map V.int)) ∧
    ∀ H1, Ex H H1 → OLLI H0 (upd H1 x (.lst ((row.map V.int).set j (.int w)))) p (M.set i (row.set j w)) := by
  obtain ⟨as, h0, h1, hn, h2⟩ := h
  obtain ⟨x, ex, qx⟩ := paired_get h2 e
  refine ⟨as, x, h1, ex, qx.1, qx.2, fun H1 eH => ?_⟩
  rw [List.nodup_cons] at hn
  have hxm : x ∈ as := List.mem_of_getElem? ex
  have hpx : p ≠ x := fun z => hn.1 (z ▸ hxm)
  refine ⟨as, h0, by rw [upd_ne hpx]; exact eH _ _ h1, List.nodup_cons.mpr hn, ?_⟩
  refine paired_of (by rw [List.length_set, h2.length]) fun k y r hy hr => ?_
  by_cases hk : k = i
  · subst hk
    rw [ex] at hy; cases hy
    have hlt : k < M.length := (List.getElem?_eq_some_iff.mp e).1
    rw [List.getElem?_set_self hlt] at hr
    cases hr
    exact ⟨qx.1, by rw [upd_same, List.map_set]⟩
  · rw [List.getElem?_set_ne (Ne.symm hk)] at hr
    obtain ⟨z, hz, qz⟩ := paired_get h2 hr
    rw [hy] at hz; cases hz
    have hne : y ≠ x := fun e2 => hk (by
      subst e2
      obtain ⟨a1, b1⟩ := List.getElem?_eq_some_iff.mp hy
      obtain ⟨a2, b2⟩ := List.getElem?_eq_some_iff.mp ex
      exact (List.getElem_inj hn.2).mp (b1.trans b2.symm))
    exact ⟨qz.1, by rw [upd_ne hne]; exact eH _ _ qz.2⟩
theorem s_setM {i j : Nat} {row : List Int} {w : Int} (h : OLLI H0 H p M) (e0 : Ex H0 H) (e : M[i]? = some row) (hj : j < row.length) (he : Ev te σ H (.int w)) (ho : Ev tv σ H (.ref p)) (hi : Ev ti σ H (.int (i : Int))) (hj' : Ev tj σ H (.int (j : Int)))
    (k : ∀ H1, Ex H0 H1 → OLLI H0 H1 p (M.set i (row.set j w)) → D.nx σ H1) : tAsg te (gSub (tOp (rIxL K) tv ti) tj rSetL) D σ H := by
  obtain ⟨as, x, h1, h2, h3, h4, h5⟩ := h.store (j := j) (w := w) e
  refine s_setL (l := x) (xs := row.map V.int) (j := j) h4 he (ev_op ho hi (rv_ixL (sq_of h1) (atI_n (by rw [List.getElem?_map, h2]; rfl)))) hj' (by rw [List.length_map]; exact hj) fun H1 e1 => ?_
  exact k _ (Ex.mut (e0.trans e1) h3) (h5 H1 e1)
theorem q_setM {i j : Nat} {row : List Int} {w : Int} (h : OLLI H0 H p M) (e0 : Ex H0 H) (e : M[i]? = some row) (hj : j < row.length) (he : Ev te σ H (.int w)) (ho : Ev tv σ H (.ref p)) (hi : Ev ti σ H (.int (i : Int))) (hj' : Ev tj σ H (.int (j : Int)))
    (k : ∀ H1, Ex H0 H1 → OLLI H0 H1 p (M.set i (row.set j w)) → tz D σ H1) : tSeq (tAsg te (gSub (tOp (rIxL K) tv ti) tj rSetL)) tz D σ H :=
  s_setM (D := { D with nx := tz D }) h e0 e hj he ho hi hj' k
/-- f but v at i, j -/
def setF (f : Nat → Nat → Int) (i j : Nat) (v : Int) : Nat → Nat → Int := fun a b => if a = i ∧ b = j then v else f a b
theorem setF_fm {n i j : Nat} {f : Nat → Nat → Int} {v : Int} (hi : i < n) (hj : j < n) : (Fm n f).set i (((List.range n).map (f i)).set j v) = Fm n (setF f i j v) := by
  apply List.ext_getElem?
  intro a
  by_cases ha : a = i
  · subst ha
    rw [List.getElem?_set_self (by rw [fm_len]; exact hi), fm_get hi]
    congr 1
    apply List.ext_getElem?
    intro b
    by_cases hb : b = j
    · subst hb
      rw [List.getElem?_set_self (by simpa using hj), mapr_get hj]
      unfold setF
      rw [if_pos ⟨rfl, rfl⟩]
    · rw [List.getElem?_set_ne (Ne.symm hb)]
      by_cases hbn : b < n
      · rw [mapr_get hbn, mapr_get hbn]
        unfold setF
        rw [if_neg (fun z => hb z.2)]
      · rw [List.getElem?_eq_none (by simpa using hbn), List.getElem?_eq_none (by simpa using hbn)]
  · rw [List.getElem?_set_ne (Ne.symm ha)]
    by_cases han : a < n
    · rw [fm_get han, fm_get han]
      congr 1
      exact mapr_ext fun b _ => by
        unfold setF
        rw [if_neg (fun z => ha z.1)]
    · rw [List.getElem?_eq_none (by rw [fm_len]; omega), List.getElem?_eq_none (by rw [fm_len]; omega)]
theorem q_setFm {n i j : Nat} {f : Nat → Nat → Int} {w : Int} (h : OLLI H0 H p (Fm n f)) (e0 : Ex H0 H) (hin : i < n) (hjn : j < n) (he : Ev te σ H (.int w)) (ho : Ev tv σ H (.ref p)) (hi : Ev ti σ H (.int (i : Int))) (hj' : Ev tj σ H (.int (j : Int)))
    (k : ∀ H1, Ex H0 H1 → OLLI H0 H1 p (Fm n (setF f i j w)) → tz D σ H1) : tSeq (tAsg te (gSub (tOp (rIxL K) tv ti) tj rSetL)) tz D σ H :=
  q_setM h e0 (fm_get hin) (by simpa using hjn) he ho hi hj' fun H1 e1 h1 => k H1 e1 (by rw [setF_fm hin hjn] at h1; exact h1)
theorem s_setFm {n i j : Nat} {f : Nat → Nat → Int} {w : Int} (h : OLLI H0 H p (Fm n f)) (e0 : Ex H0 H) (hin : i < n) (hjn : j < n) (he : Ev te σ H (.int w)) (ho : Ev tv σ H (.ref p)) (hi : Ev ti σ H (.int (i : Int))) (hj' : Ev tj σ H (.int (j : Int)))
    (k : ∀ H1, Ex H0 H1 → OLLI H0 H1 p (Fm n (setF f i j w)) → D.nx σ H1) : tAsg te (gSub (tOp (rIxL K) tv ti) tj rSetL) D σ H :=
  s_setM h e0 (fm_get hin) (by simpa using hjn) he ho hi hj' fun H1 e1 h1 => k H1 e1 (by rw [setF_fm hin hjn] at h1; exact h1)

/-- [a, b, ..][i] -/
theorem ev_menu {ta : TA} {i : Nat} {vs : List V} {v : V} (h : EvA ta σ H vs) (hl : vs.length ≤ 100000) (hi : ∀ H1, Ex H H1 → Ev ti σ H1 (.int (i : Int))) (hv : vs[i]? = some v) : Ev (tOp (rIxL K) (tLst ta) ti) σ H v :=
  ev_opL1 (el_lst h hl) hi fun p H1 hp e1 => rv_ixL (sq_of hp) (atI_n hv)

/-- for x, y in zip(xs, ys) -/
theorem s_forZ {ta : TA} {i1 i2 : Nat} {xs ys : List V} (h : EvA ta σ H [.ref a, .ref b]) (ha : SqL K H a xs) (hb : SqL K H b ys) (hl : xs.length = ys.length) (Pv : Nat → St → Hp → Prop) (h0 : ∀ H1, Ex H H1 → Pv 0 σ H1)
    (hq : ∀ i σ' H', Pv i σ' H' → SqL K H' a xs ∧ SqL K H' b ys)
    (hs : ∀ (i : Nat) x y T σ' H', xs[i]? = some x → ys[i]? = some y → Pv i σ' H' → H' T = none → tu { D with nx := Pv (i + 1), ct := Pv (i + 1), bk := D.nx } ((σ'.set i1 (some x)).set i2 (some y)) (upd H' T (.tup [x, y])))
    (hd : ∀ σ' H', Pv xs.length σ' H' → D.nx σ' H') : tFor (iZip K ta) (gTup K 2 (gCons (gName i1) (gCons (gName i2) gNil))) tu D σ H :=
  h H (Ex.refl H) _ fun H1 e => ⟨a, b, xs, ys, rfl, ex_l e ha, ex_l e hb, RZ.for_zipL hl Pv (h0 H1 e) hq (fun i x y T σ' H' hx hy p hT => ⟨T, [x, y], rfl, st_of upd_same, rfl, x, [y], rfl, y, [], rfl, rfl, hs i x y T σ' H' hx hy p hT⟩) hd⟩
theorem q_forZ {ta : TA} {i1 i2 : Nat} {xs ys : List V} (h : EvA ta σ H [.ref a, .ref b]) (ha : SqL K H a xs) (hb : SqL K H b ys) (hl : xs.length = ys.length) (Pv : Nat → St → Hp → Prop) (h0 : ∀ H1, Ex H H1 → Pv 0 σ H1)
    (hq : ∀ i σ' H', Pv i σ' H' → SqL K H' a xs ∧ SqL K H' b ys)
    (hs : ∀ (i : Nat) x y T σ' H', xs[i]? = some x → ys[i]? = some y → Pv i σ' H' → H' T = none → tu { D with nx := Pv (i + 1), ct := Pv (i + 1), bk := tz D } ((σ'.set i1 (some x)).set i2 (some y)) (upd H' T (.tup [x, y])))
    (hd : ∀ σ' H', Pv xs.length σ' H' → tz D σ' H') : tSeq (tFor (iZip K ta) (gTup K 2 (gCons (gName i1) (gCons (gName i2) gNil))) tu) tz D σ H :=
  s_forZ (D := { D with nx := tz D }) h ha hb hl Pv h0 hq hs hd

/-! ### isinstance -/
theorem ev_isi {u w : Value} {n m : String} {k : Bool} (ha : Ev ta σ H x) (hx : ∀ H1, Ex H H1 → TyX K H1 x (.type n)) (hk : PySem.W.kitOne K (.type n) (.type m) = some k) : Ev (tCB (rIsi K) (tCons ta (tCons (tC (.ty m)) tNil))) σ H (.bl k) := fun H1 e Q q =>
  ha H1 e _ fun H2 e2 => ⟨x, .ty m, .type n, .type m, k, rfl, .ty m, hx H2 (e.trans e2), hk, q H2 e2⟩
theorem ev_isInt {i : Int} (ha : Ev ta σ H (.int i)) : Ev (tCB (rIsi K) (tCons ta (tCons (tC (.ty "int")) tNil))) σ H (.bl true) := ev_isi (u := .none) (w := .none) (n := "int") ha (fun _ _ => .base (.int i)) (kit_ty (by decide +kernel))
theorem ev_isIntBool {i : Int} (ha : Ev ta σ H (.int i)) : Ev (tCB (rIsi K) (tCons ta (tCons (tC (.ty "bool")) tNil))) σ H (.bl false) := ev_isi (u := .none) (w := .none) (n := "int") ha (fun _ _ => .base (.int i)) (kit_ty (by decide +kernel))
theorem ev_isList {vs : List V} (ha : Ev ta σ H (.ref p)) (h : H p = some (.lst vs)) : Ev (tCB (rIsi K) (tCons ta (tCons (tC (.ty "list")) tNil))) σ H (.bl true) := ev_isi (u := .none) (w := .none) (n := "list") ha (fun H1 e => .base (.lst (e _ _ h))) (kit_ty (by decide +kernel))
theorem ev_isBool {k : Bool} (ha : Ev ta σ H (.bl k)) : Ev (tCB (rIsi K) (tCons ta (tCons (tC (.ty "bool")) tNil))) σ H (.bl true) := ev_isi (u := .none) (w := .none) (n := "bool") ha (fun _ _ => .base (.bl k)) (kit_ty (by decide +kernel))

/-! ### == of lists of ints, of lists of them -/
def dI (xs : List Int) : List PyData := xs.map PyData.int
def dM (M : List (List Int)) : List PyData := M.map fun r => .list (dI r)
theorem dpAll_ints : ∀ xs : List Int, DpAll K H (xs.map V.int) (dI xs)
  | [] => .nil
  | x :: r => .cons (.int x) (dpAll_ints r)
theorem LI.dp (h : LI K H a xs) : Dp K H (.ref a) (.list (dI xs)) := .lst h (dpAll_ints xs)
theorem dpAll_rows : ∀ {as : List Addr} {M : List (List Int)}, Paired (fun x r => LI K H x r) as M → DpAll K H (as.map V.ref) (dM M)
  | _, _, .nil => .nil
  | _, _, .cons r t => .cons r.dp (dpAll_rows t)
theorem LLI.dp (h : LLI K H a M) : Dp K H (.ref a) (.list (dM M)) := by
  obtain ⟨as, h1, h2⟩ := h
  exact .lst h1 (dpAll_rows h2)
theorem canLay_ints : ∀ xs : List Int, PyData.canLayAll0 (dI xs) = true
  | [] => rfl
  | x :: r => by
    have := canLay_ints r
    simpa [dI, PyData.canLayAll0, PyData.canLay0] using this
theorem canLay_rows : ∀ M : List (List Int), PyData.canLayAll0 (dM M) = true
  | [] => rfl
  | x :: r => by
    have h1 := canLay_rows r
    have h2 := canLay_ints x
    simp only [dM, List.map_cons, PyData.canLayAll0, PyData.canLay0, Bool.and_eq_true]
    exact ⟨h2, h1⟩
theorem depth_ints : ∀ xs : List Int, PyData.depthAll (dI xs) ≤ 1
  | [] => by simp [dI, PyData.depthAll]
  | x :: r => by
    have := depth_ints r
    simp only [dI, List.map_cons, PyData.depthAll, PyData.depth] at *
    omega
theorem depth_rows : ∀ M : List (List Int), PyData.depthAll (dM M) ≤ 2
  | [] => by simp [dM, PyData.depthAll]
  | x :: r => by
    have h1 := depth_rows r
    have h2 := depth_ints x
    simp only [dM, List.map_cons, PyData.depthAll, PyData.depth] at *
    omega
theorem shaped_I (xs : List Int) : SeqAt.shaped (.list (dI xs)) = true := by
  unfold SeqAt.shaped
  rw [Bool.and_eq_true]
  refine ⟨by simpa [PyData.canLay0] using canLay_ints xs, decide_eq_true ?_⟩
  have := depth_ints xs
  simp only [PyData.depth]
  omega
theorem shaped_M (M : List (List Int)) : SeqAt.shaped (.list (dM M)) = true := by
  unfold SeqAt.shaped
  rw [Bool.and_eq_true]
  refine ⟨by simpa [PyData.canLay0] using canLay_rows M, decide_eq_true ?_⟩
  have := depth_rows M
  simp only [PyData.depth]
  omega
theorem eqv_I : ∀ xs ys : List Int, PyData.eqvAll (dI xs) (dI ys) = decide (xs = ys)
  | [], [] => rfl
  | [], _ :: _ => rfl
  | _ :: _, [] => rfl
  | x :: xs, y :: ys => by
    have ih := eqv_I xs ys
    show (PyData.eqv (.int x) (.int y) && PyData.eqvAll (dI xs) (dI ys)) = _
    rw [ih]
    show ((x == y) && decide (xs = ys)) = _
    by_cases e : x = y
    · subst e; simp
    · simp [e]
theorem eqv_M : ∀ xs ys : List (List Int), PyData.eqvAll (dM xs) (dM ys) = decide (xs = ys)
  | [], [] => rfl
  | [], _ :: _ => rfl
  | _ :: _, [] => rfl
  | x :: xs, y :: ys => by
    have ih := eqv_M xs ys
    show (PyData.eqv (.list (dI x)) (.list (dI y)) && PyData.eqvAll (dM xs) (dM ys)) = _
    rw [ih]
    show (PyData.eqvAll (dI x) (dI y) && decide (xs = ys)) = _
    rw [eqv_I]
    by_cases e : x = y
    · subst e; simp
    · simp [e]
theorem rv_eqM {N : List (List Int)} (ha : LLI K H a M) (hb : LLI K H b N) : RV (rEqD K) (.ref a) (.ref b) H (.bl (decide (M = N))) := fun H1 e Q q =>
  ⟨_, _, (ha.mono e).dp, (hb.mono e).dp, shaped_M M, shaped_M N, by
    show Q (.bl (PyData.eqvAll (dM M) (dM N))) H1
    rw [eqv_M]
    exact q H1 (Ex.refl _)⟩
theorem rv_neM {N : List (List Int)} (ha : LLI K H a M) (hb : LLI K H b N) : RV (rNeD K) (.ref a) (.ref b) H (.bl (!decide (M = N))) := fun H1 e Q q =>
  ⟨_, _, (ha.mono e).dp, (hb.mono e).dp, shaped_M M, shaped_M N, by
    show Q (.bl (!PyData.eqvAll (dM M) (dM N))) H1
    rw [eqv_M]
    exact q H1 (Ex.refl _)⟩
theorem rv_eqI {ys : List Int} (ha : LI K H a xs) (hb : LI K H b ys) : RV (rEqD K) (.ref a) (.ref b) H (.bl (decide (xs = ys))) := fun H1 e Q q =>
  ⟨_, _, (ha.mono e).dp, (hb.mono e).dp, shaped_I xs, shaped_I ys, by
    show Q (.bl (PyData.eqvAll (dI xs) (dI ys))) H1
    rw [eqv_I]
    exact q H1 (Ex.refl _)⟩
theorem rv_neI {ys : List Int} (ha : LI K H a xs) (hb : LI K H b ys) : RV (rNeD K) (.ref a) (.ref b) H (.bl (!decide (xs = ys))) := fun H1 e Q q =>
  ⟨_, _, (ha.mono e).dp, (hb.mono e).dp, shaped_I xs, shaped_I ys, by
    show Q (.bl (!PyData.eqvAll (dI xs) (dI ys))) H1
    rw [eqv_I]
    exact q H1 (Ex.refl _)⟩
/-- x, y = e1, e2 -/
theorem s_par {i j : Nat} {ta : TA} {v1 v2 : V} (h : EvA ta σ H [v1, v2]) (k : ∀ H1, Ex H H1 → D.nx ((σ.set i (some v1)).set j (some v2)) H1) : tPar i j ta D σ H := h H (Ex.refl H) _ fun H1 e => ⟨v1, v2, rfl, k H1 e⟩
theorem q_par {i j : Nat} {ta : TA} {v1 v2 : V} (h : EvA ta σ H [v1, v2]) (k : ∀ H1, Ex H H1 → tz D ((σ.set i (some v1)).set j (some v2)) H1) : tSeq (tPar i j ta) tz D σ H := s_par (D := { D with nx := tz D }) h k
/-! ### xs[1:], calls with new arguments, xs.pop() -/
theorem cut1 (xs : List V) : cutV xs (some 1) none = xs.drop 1 := by
  unfold cutV
  rw [show HT.sIx xs.length 0 (some 1) = min 1 xs.length from HT.sIx_nat xs.length 0 1, HT.sIx_none]
  cases xs with
  | nil => rfl
  | cons x r =>
    rw [show min 1 (x :: r).length = 1 by
      rw [List.length_cons]
      omega]
    show (List.take ((x :: r).length - 1) r) = r
    rw [List.length_cons, Nat.add_sub_cancel]
    exact List.take_length
def RTL (N : List (List Int)) : R3 := fun _ H2 v => ∃ y, v = .ref y ∧ TLL H2 y N
theorem er_slice1 {N : List (List Int)} {x : Addr} (h : Ev te σ H (.ref x)) (hN : OLLI H0 H x N) : Er (tSl (rSlL K) te (tPart (tC (.int 1))) tNoPart) σ H (RTL (N.drop 1)) := fun H1 e Q q => by
  obtain ⟨as, _, h1, hn, h2⟩ := hN
  refine el_sl h (eo_some ev_c) eo_none (sq_of h1) H1 e _ fun p H2 hp e2 hp2 => q _ H2 e2 ⟨p, rfl, as.drop 1, rfl, ?_, ?_, ?_⟩
  · rw [hp2, cut1, List.map_drop]
  · rw [List.nodup_cons] at hn ⊢
    refine ⟨fun hm => ?_, hn.2.sublist (List.drop_sublist 1 as)⟩
    have hm2 : p ∈ as := List.mem_of_mem_drop hm
    obtain ⟨r, _, hr⟩ := paired_mem h2 hm2
    have := e _ _ hr.2
    rw [hp] at this
    cases this
  · exact paired_drop 1 (paired_mono h2 fun x r q => ⟨rfl, (e.trans e2) _ _ q.2⟩)
theorem ev_callR2 {R1 R2 : R3} {sp : Sp} {E : XK} {t1 t2 : TE} (h1 : Er t1 σ H R1) (h2 : Er t2 σ H R2) (hs : ∀ v1 v2 H1 H2 H3, Ex H H1 → Ex H1 H2 → Ex H2 H3 → R1 H1 H2 v1 → R2 H2 H3 v2 → SpV sp [v1, v2] H3 z) : Ev (tCall sp [] E (tCons t1 (tCons t2 tNil))) σ H z := fun H1 e Q q =>
  h1 H1 e _ fun v1 H2 e2 r1 => h2 H2 (e.trans e2) _ fun v2 H3 e3 r2 => hs v1 v2 H1 H2 H3 e e2 e3 r1 r2 H3 (Ex.refl _) Q (fun H4 e4 => q H4 ((e2.trans e3).trans e4)) E
theorem s_pop {l : Addr} {vs : List V} {y : V} (hl : H l = some (.lst vs)) (ha : Ev ta σ H (.ref l)) (hy : vs[vs.length - 1]? = some y) (k : ∀ H1, Ex H H1 → D.nx σ (upd H1 l (.lst vs.dropLast))) : tDrop (tBM0 K "list" rPop ta) D σ H :=
  ha H (Ex.refl H) _ fun H1 e1 => ⟨.inl ⟨rfl, vs, sq_of (e1 _ _ hl)⟩, l, vs, y, rfl, rfl, e1 _ _ hl, hy, k H1 e1⟩
end
end AT

/-! ## calls whose arguments are new things; the greatest of a list -/
namespace AT
open PySem PySem.Spec PyProof.Rows L2 Evl
section
variable {K : Frag} {σ : St} {H H0 H1 H' : Hp} {ta : TA} {te t1 t2 : TE} {t : TT} {a b p r : Addr} {M : List (List Int)} {xs : List Int} {x y z v : V} {R R1 R2 : R3} {D : Ends} {tu tz : TS} {sp : Sp} {E : XK} {vs : List V}
theorem ev_callR1 (h1 : Er t1 σ H R1) (h2 : EvA ta σ H vs) (hs : ∀ v1 H1 H2 H3, Ex H H1 → Ex H1 H2 → Ex H2 H3 → R1 H1 H2 v1 → SpV sp (v1 :: vs) H3 z) : Ev (tCall sp [] E (tCons t1 ta)) σ H z := fun H1 e Q q =>
  h1 H1 e _ fun v1 H2 e2 r1 => h2 H2 (e.trans e2) _ fun H3 e3 => (by
    show sp ((v1 :: vs) ++ []) H3 Q E
    rw [List.append_nil]
    exact hs v1 H1 H2 H3 e e2 e3 r1 H3 (Ex.refl _) Q (fun H4 e4 => q H4 ((e2.trans e3).trans e4)) E)
theorem er_callR1 (mR : Mon R) (h1 : Er t1 σ H R1) (h2 : EvA ta σ H vs) (hs : ∀ v1 H1 H2 H3, Ex H H1 → Ex H1 H2 → Ex H2 H3 → R1 H1 H2 v1 → SpR sp (v1 :: vs) H3 R) : Er (tCall sp [] E (tCons t1 ta)) σ H R := fun H1 e Q q =>
  h1 H1 e _ fun v1 H2 e2 r1 => h2 H2 (e.trans e2) _ fun H3 e3 => (by
    show sp ((v1 :: vs) ++ []) H3 Q E
    rw [List.append_nil]
    exact hs v1 H1 H2 H3 e e2 e3 r1 H3 (Ex.refl _) Q (fun v H4 e4 r => q v H4 ((e2.trans e3).trans e4) (mR.dn (e2.trans e3) r)) E)
theorem er_callR2 (mR : Mon R) (h1 : Er t1 σ H R1) (h2 : Er t2 σ H R2) (hs : ∀ v1 v2 H1 H2 H3, Ex H H1 → Ex H1 H2 → Ex H2 H3 → R1 H1 H2 v1 → R2 H2 H3 v2 → SpR sp [v1, v2] H3 R) : Er (tCall sp [] E (tCons t1 (tCons t2 tNil))) σ H R := fun H1 e Q q =>
  h1 H1 e _ fun v1 H2 e2 r1 => h2 H2 (e.trans e2) _ fun v2 H3 e3 r2 => hs v1 v2 H1 H2 H3 e e2 e3 r1 r2 H3 (Ex.refl _) Q (fun v H4 e4 r => q v H4 ((e2.trans e3).trans e4) (mR.dn (e2.trans e3) r)) E
/-- x a name, the second new -/
theorem er_evR (h : Ev te σ H v) : Er te σ H (fun _ _ u => u = v) := fun H1 e Q q => h H1 e Q fun H2 e2 => q v H2 e2 rfl

/-! ### max -/
def maxL : List Int → Int
  | [] => 0
  | [x] => x
  | x :: y :: r => if x ≤ maxL (y :: r) then maxL (y :: r) else x
theorem maxL_mem : ∀ {xs : List Int}, xs ≠ [] → maxL xs ∈ xs
  | [], h => absurd rfl h
  | [x], _ => List.mem_cons_self
  | x :: y :: r, _ => by
    unfold maxL
    split
    · exact List.mem_cons_of_mem _ (maxL_mem (by simp))
    · exact List.mem_cons_self
theorem maxL_le : ∀ {xs : List Int} {y : Int}, y ∈ xs → y ≤ maxL xs
  | [x], y, h => by
    have : y = x := by simpa using h
    subst this
    exact Int.le_refl _
  | x :: z :: r, y, h => by
    unfold maxL
    rcases List.mem_cons.mp h with rfl | h
    · split <;> omega
    · have := maxL_le (xs := z :: r) h
      split <;> omega
theorem maxL_eq {xs : List Int} {m : Int} (h1 : m ∈ xs) (h2 : ∀ y, y ∈ xs → y ≤ m) : m = maxL xs :=
  Int.le_antisymm (maxL_le h1) (h2 _ (maxL_mem (fun z => by subst z; cases h1)))
theorem maxL_le_iff {xs : List Int} {b : Int} (h : xs ≠ []) : maxL xs ≤ b ↔ ∀ y, y ∈ xs → y ≤ b :=
  ⟨fun h2 y hy => Int.le_trans (maxL_le hy) h2, fun h2 => h2 _ (maxL_mem h)⟩
theorem ev_max (h : EvL te σ H (xs.map V.int)) (hn : xs ≠ []) : Ev (tCB (rMax K) (tCons te tNil)) σ H (.int (maxL xs)) := fun H1 e Q q =>
  h H1 e _ fun p H2 hp e2 h2 => ⟨p, xs, rfl, sq_of h2, List.length_pos_iff.mpr hn, fun m hm hle => by
    rw [maxL_eq hm hle]
    exact q H2 e2⟩
theorem ev_maxN (h : Ev te σ H (.ref a)) (hL : LI K H a xs) (hn : xs ≠ []) : Ev (tCB (rMax K) (tCons te tNil)) σ H (.int (maxL xs)) := fun H1 e Q q =>
  h H1 e _ fun H2 e2 => ⟨a, xs, rfl, hL.mono (e.trans e2), List.length_pos_iff.mpr hn, fun m hm hle => by
    rw [maxL_eq hm hle]
    exact q H2 e2⟩
/-- [te for x in xs] of ints, over the rows of a list of lists, over a list of ints -/
theorem el_lcRows {tl : TE} {j : Nat} {ws : List Nat} (g : List Int → Int) (h : Ev tl σ H (.ref a)) (hM : LLI K H a M) (hz : M.length ≤ 40000) (hw : ∀ x, wipe ((wipe σ ws).set j (some x)) ws = wipe σ ws)
    (he : ∀ x r H1, Ex H H1 → r ∈ M → LI K H1 x r → Ev te ((wipe σ ws).set j (some (.ref x))) H1 (.int (g r))) : EvL (tLc (iList K tl) (gName j) tYes te ws) σ H ((M.map g).map V.int) := by
  obtain ⟨as, h1, h2⟩ := hM
  have hl := h2.length
  have := el_lcL (K := K) (te := te) (t := tYes) (fun _ => true) (fun i => .int (g (M.getD i []))) h h1 (by rw [List.length_map]; omega) hw (fun _ _ _ _ _ _ _ Q q => q _ (Ex.refl _)) (fun i x H1 e1 hx _ => by
    rw [List.getElem?_map] at hx
    cases hy : as[i]? with
    | none => rw [hy] at hx; cases hx
    | some y =>
      rw [hy] at hx
      cases hx
      obtain ⟨r, q1, q2⟩ := paired_getL h2 hy
      rw [List.getD_eq_getElem?_getD, q1]
      exact he y r H1 e1 (List.mem_of_getElem? q1) (q2.mono e1))
  unfold given at this
  rw [filt_all, List.length_map, hl] at this
  have e : (List.range M.length).map (fun i => V.int (g (M.getD i []))) = (M.map g).map V.int := by
    rw [List.map_map]
    conv => rhs; rw [list_eq_range' [] M]
    rw [List.map_map]; rfl
  rw [e] at this
  exact this
where
  list_eq_range' {α : Type} (d : α) (l : List α) : l = (List.range l.length).map fun i => l.getD i d := by
    apply List.ext_getElem
    · simp
    · intro i h1 h2
      simp [List.getD_eq_getElem?_getD, h1]
theorem el_lcInts {tl : TE} {j : Nat} {ws : List Nat} (g : Int → Int) (h : Ev tl σ H (.ref a)) (hM : LI K H a xs) (hz : xs.length ≤ 40000) (hw : ∀ x, wipe ((wipe σ ws).set j (some x)) ws = wipe σ ws)
    (he : ∀ x H1, Ex H H1 → Ev te ((wipe σ ws).set j (some (.int x))) H1 (.int (g x))) : EvL (tLc (iList K tl) (gName j) tYes te ws) σ H ((xs.map g).map V.int) := by
  have := el_lcL (K := K) (te := te) (t := tYes) (fun _ => true) (fun i => .int (g (xs.getD i 0))) h hM (by rw [List.length_map]; omega) hw (fun _ _ _ _ _ _ _ Q q => q _ (Ex.refl _)) (fun i x H1 e1 hx _ => by
    rw [List.getElem?_map] at hx
    cases hy : xs[i]? with
    | none => rw [hy] at hx; cases hx
    | some y =>
      rw [hy] at hx
      cases hx
      rw [List.getD_eq_getElem?_getD, hy]
      exact he y H1 e1)
  unfold given at this
  rw [filt_all, List.length_map] at this
  have e : (List.range xs.length).map (fun i => V.int (g (xs.getD i 0))) = (xs.map g).map V.int := by
    rw [List.map_map]
    apply List.ext_getElem
    · simp
    · intro i h1 h2
      simp at h1
      simp [List.getD_eq_getElem?_getD, h1]
  rw [e] at this
  exact this
end
/-! ### calls of the known defs -/
end AT

/-! ## chains of comparisons, ifs on a known number, rows changed -/
namespace AT
open PySem PySem.Spec PyProof.Rows L2 Evl
section
variable {K : Frag} {σ : St} {H H0 H1 H' : Hp} {ta tb tc te t1 t2 : TE} {t : TT} {a b p r : Addr} {M : List (List Int)} {xs : List Int} {x y z v : V} {R Ra Rb : R3} {D : Ends} {tu tz : TS}
theorem ev_chain {r r' : R2} {k1 k2 : Bool} (ha : Ev ta σ H x) (hb : Ev tb σ H y) (hr : RV r x y H (.bl k1)) (hc : Ev tc σ H z) (hr' : RV r' y z H (.bl k2)) : Ev (tChain r r' ta tb tc) σ H (.bl (k1 && k2)) := fun H1 e Q q =>
  ha H1 e _ fun H2 e2 => hb H2 (e.trans e2) _ fun H3 e3 => hr H3 ((e.trans e2).trans e3) _ fun H4 e4 => ⟨k1, rfl, by
    cases k1 with
    | false =>
      rw [if_neg Bool.false_ne_true]
      exact q H4 ((e2.trans e3).trans e4)
    | true =>
      rw [if_pos rfl]
      exact hc H4 (((e.trans e2).trans e3).trans e4) _ fun H5 e5 => hr' H5 ((((e.trans e2).trans e3).trans e4).trans e5) _ fun H6 e6 => q H6 (((e2.trans e3).trans e4).trans (e5.trans e6))⟩
theorem q_skip {i : Nat} {m k : Int} (h : σ[i]? = some (some (.int m))) (hm : m ≠ k) (q : tz D σ H) : tSeq (tIfS (tTest (tOp rEq (tVar i) (tC (.int k)))) tu tNext) tz D σ H :=
  ⟨.int m, h, rfl, _, rfl, by
    have : ¬ (V.int m = V.int k) := fun e => hm (by injection e)
    show (if decide (V.int m = V.int k) = true then _ else _)
    rw [if_neg (by simp [this])]
    exact q⟩
theorem q_take {i : Nat} {m k : Int} (h : σ[i]? = some (some (.int m))) (hm : m = k) (q : tu { D with nx := tz D } σ H) : tSeq (tIfS (tTest (tOp rEq (tVar i) (tC (.int k)))) tu tNext) tz D σ H :=
  ⟨.int m, h, rfl, _, rfl, by
    subst hm
    show (if decide (V.int m = V.int m) = true then _ else _)
    rw [if_pos (by simp)]
    exact q⟩
theorem s_skip {i : Nat} {m k : Int} (h : σ[i]? = some (some (.int m))) (hm : m ≠ k) (q : D.nx σ H) : tIfS (tTest (tOp rEq (tVar i) (tC (.int k)))) tu tNext D σ H :=
  ⟨.int m, h, rfl, _, rfl, by
    have : ¬ (V.int m = V.int k) := fun e => hm (by injection e)
    show (if decide (V.int m = V.int k) = true then _ else _)
    rw [if_neg (by simp [this])]
    exact q⟩
theorem s_take {i : Nat} {m k : Int} (h : σ[i]? = some (some (.int m))) (hm : m = k) (q : tu D σ H) : tIfS (tTest (tOp rEq (tVar i) (tC (.int k)))) tu tNext D σ H :=
  ⟨.int m, h, rfl, _, rfl, by
    subst hm
    show (if decide (V.int m = V.int m) = true then _ else _)
    rw [if_pos (by simp)]
    exact q⟩
theorem paired_eraseIdx {α β : Type} {F : α → β → Prop} : ∀ {l₁ : List α} {l₂ : List β} (n : Nat), Paired F l₁ l₂ → Paired F (l₁.eraseIdx n) (l₂.eraseIdx n)
  | _, _, _, .nil => by simp only [List.eraseIdx_nil]; exact .nil
  | _, _, 0, .cons _ t => t
  | _, _, n + 1, .cons r t => .cons r (paired_eraseIdx n t)
theorem map_erase {α β : Type} (f : α → β) : ∀ (l : List α) (i : Nat), (l.map f).eraseIdx i = (l.eraseIdx i).map f
  | [], i => by simp
  | a :: r, 0 => rfl
  | a :: r, n + 1 => by simp [map_erase f r n]
/-- a row of a tracked list of lists, and what becomes of all where it is put otherwise -/
theorem OLLI.row_upd {i : Nat} {row : List Int} (h : OLLI H0 H p M) (e : M[i]? = some row) : ∃ (as : List Addr) (x : Addr), H p = some (.lst (as.map V.ref)) ∧ as[i]? = some x ∧ H0 x = none ∧ H x = some (.lst (row.map V.int)) ∧
    ∀ H1 row', Ex H H1 → OLLI H0 (upd H1 x (.lst (row'.map V.int))) p (M.set i row') := by
  obtain ⟨as, h0, h1, hn, h2⟩ := h
  obtain ⟨x, ex, qx⟩ := paired_get h2 e
  refine ⟨as, x, h1, ex, qx.1, qx.2, fun H1 row' eH => ?_⟩
  rw [List.nodup_cons] at hn
  have hxm : x ∈ as := List.mem_of_getElem? ex
  have hpx : p ≠ x := fun z => hn.1 (z ▸ hxm)
  refine ⟨as, h0, by rw [upd_ne hpx]; exact eH _ _ h1, List.nodup_cons.mpr hn, ?_⟩
  refine paired_of (by rw [List.length_set, h2.length]) fun k y r hy hr => ?_
  by_cases hk : k = i
  · subst hk
    rw [ex] at hy; cases hy
    have hlt : k < M.length := (List.getElem?_eq_some_iff.mp e).1
    rw [List.getElem?_set_self hlt] at hr
    cases hr
    exact ⟨qx.1, upd_same⟩
  · rw [List.getElem?_set_ne (Ne.symm hk)] at hr
    obtain ⟨z, hz, qz⟩ := paired_get h2 hr
    rw [hy] at hz; cases hz
    have hne : y ≠ x := fun e2 => hk (by
      subst e2
      obtain ⟨a1, b1⟩ := List.getElem?_eq_some_iff.mp hy
      obtain ⟨a2, b2⟩ := List.getElem?_eq_some_iff.mp ex
      exact (List.getElem_inj hn.2).mp (b1.trans b2.symm))
    exact ⟨qz.1, by rw [upd_ne hne]; exact eH _ _ qz.2⟩
theorem OLLI.erase (h : OLLI H0 H p M) (i : Nat) : ∃ vs : List V, H p = some (.lst vs) ∧ vs.length = M.length ∧ ∀ H1, Ex H H1 → OLLI H0 (upd H1 p (.lst (vs.eraseIdx i))) p (M.eraseIdx i) := by
  obtain ⟨as, h0, h1, hn, h2⟩ := h
  refine ⟨as.map V.ref, h1, by rw [List.length_map, h2.length], fun H1 e => ⟨as.eraseIdx i, h0, ?_, ?_, ?_⟩⟩
  · rw [upd_same, map_erase]
  · rw [List.nodup_cons] at hn ⊢
    exact ⟨fun hm => hn.1 ((List.eraseIdx_sublist as i).subset hm), hn.2.sublist (List.eraseIdx_sublist as i)⟩
  · rw [List.nodup_cons] at hn
    have h3 : Paired (fun x r => OLI H0 H1 x r) as M := paired_mono h2 fun _ _ q => q.mono e
    refine paired_mem_mono (paired_eraseIdx i h3) fun x r hx q => ⟨q.1, ?_⟩
    have hxa : x ∈ as := (List.eraseIdx_sublist as i).subset hx
    rw [upd_ne (fun z : x = p => hn.1 (z ▸ hxa))]
    exact q.2
theorem seqIx {i n : Nat} (h : i < n) : seqIndex? (i : Int) n = some i := by
  unfold seqIndex?
  have e : (if (i : Int) < 0 then (i : Int) + (n : Int) else (i : Int)) = (i : Int) := if_neg (by omega)
  simp only [e]
  rw [if_pos (by simp; omega)]
  simp
/-- [te] of a new list -/
theorem er_lstM {row : List Int} (h : Er te σ H (RL row)) : Er (tLst (tCons te tNil)) σ H (RM [row]) := fun H1 e Q q =>
  h H1 e (fun x H2 => [x].length ≤ sizeLine ∧ ∀ p, H2 p = none → Q (.ref p) (upd H2 p (.lst [x]))) fun v H2 e2 ⟨r, hv, hr, hr2⟩ => by
    subst hv
    exact ⟨by show 1 ≤ sizeLine; decide, fun p hp => q _ _ (e2.trans (Ex.new hp)) ⟨p, rfl, [r], fresh_back e2 hp, upd_same, by simpa using (ne_of_none hr2 hp).symm, .cons ⟨hr, by rw [upd_ne (ne_of_none hr2 hp)]; exact hr2⟩ .nil⟩⟩
/-- a call for its own sake, the first argument new -/
theorem s_dropR1 {sp : Sp} {E : XK} {dvs : List V} {ta : TA} (h1 : Er te σ H R) (k : ∀ v H1, Ex H H1 → R H H1 v → ta σ H1 (fun vs H2 => sp ((v :: vs) ++ dvs) H2 (fun _ H3 => D.nx σ H3) E)) : tDrop (tCall sp dvs E (tCons te ta)) D σ H :=
  h1 H (Ex.refl _) (fun x H2 => ta σ H2 fun xs H3 => sp ((x :: xs) ++ dvs) H3 (fun _ H4 => D.nx σ H4) E) k
/-- x = f(..) in a try, f(..) in a try -/
theorem s_asgS {sp : Sp} {Ef : L2.St → XK} {i : Nat} {ta : TA} {vs : List V} (h : EvA ta σ H vs) (k : ∀ H1, Ex H H1 → sp vs H1 (fun v H2 => D.nx (σ.set i (some v)) H2) (Ef σ)) : tAsg (tCallS sp Ef ta) (gName i) D σ H := h H (Ex.refl H) _ k
theorem s_dropS {sp : Sp} {Ef : L2.St → XK} {ta : TA} {vs : List V} (h : EvA ta σ H vs) (k : ∀ H1, Ex H H1 → sp vs H1 (fun _ H2 => D.nx σ H2) (Ef σ)) : tDrop (tCallS sp Ef ta) D σ H := h H (Ex.refl H) _ k
/-- xs.pop(i) as a statement -/
theorem s_popAt {l : Addr} {vs : List V} {i : Nat} (hl : H l = some (.lst vs)) (ha : Ev ta σ H (.ref l)) (hi : Ev tb σ H (.int (i : Int))) (hin : i < vs.length) (hs : vs.length ≤ 100000) (k : ∀ H1, Ex H H1 → D.nx σ (upd H1 l (.lst (vs.eraseIdx i)))) : tDrop (tBM K "list" rPopAt ta (tCons tb tNil)) D σ H :=
  ha H (Ex.refl H) _ fun H1 e1 => ⟨.inl ⟨rfl, vs, sq_of (e1 _ _ hl)⟩, hi H1 e1 _ fun H2 e2 => ⟨l, vs, (i : Int), i, vs[i], rfl, rfl, (e1.trans e2) _ _ hl, by omega, by omega, seqIx hin, List.getElem?_eq_getElem hin, k H2 (e1.trans e2)⟩⟩
end
end AT

/-! ## data that can be compared: < and its fellows -/
namespace AT
open PySem PySem.Spec PyProof.Rows L2 Evl
section
variable {X : Cx}
def rGtD (K : Frag) : R2 := fun x y H Q => ∃ d e, Dp K H x d ∧ Dp K H y e ∧ PySem.W.alike d e = true ∧ d ≠ .none ∧ d.depth ≤ 60 ∧ Q (.bl (PySem.W.dataLt e d)) H
def rLtD (K : Frag) : R2 := fun x y H Q => ∃ d e, Dp K H x d ∧ Dp K H y e ∧ PySem.W.alike d e = true ∧ d ≠ .none ∧ d.depth ≤ 60 ∧ Q (.bl (PySem.W.dataLt d e)) H
def rGeD (K : Frag) : R2 := fun x y H Q => ∃ d e, Dp K H x d ∧ Dp K H y e ∧ PySem.W.alike d e = true ∧ d ≠ .none ∧ d.depth ≤ 60 ∧ Q (.bl (!PySem.W.dataLt d e)) H
def rLeD (K : Frag) : R2 := fun x y H Q => ∃ d e, Dp K H x d ∧ Dp K H y e ∧ PySem.W.alike d e = true ∧ d ≠ .none ∧ d.depth ≤ 60 ∧ Q (.bl (!PySem.W.dataLt e d)) H
theorem gtDK (K : Frag) (hu : X.A.units + 64 < cLine) (h : X.K = K := by rfl) : OpR X (compareOp .Gt) (rGtD K) := by
  subst h
  intro pins s σ H x y v u Q I rx ry h
  obtain ⟨d, e, hd, he, ha, hn, hdp, q⟩ := h
  obtain ⟨as, r1⟩ := Dp.reads I d x v hd rx
  obtain ⟨bs, r2⟩ := Dp.reads I e y u he ry
  exact PySem.W.gt_data r1 r2 ha hn (by omega) ⟨.bl _, H, I, rfl, q⟩
theorem ltDK (K : Frag) (hu : X.A.units + 64 < cLine) (h : X.K = K := by rfl) : OpR X (compareOp .Lt) (rLtD K) := by
  subst h
  intro pins s σ H x y v u Q I rx ry h
  obtain ⟨d, e, hd, he, ha, hn, hdp, q⟩ := h
  obtain ⟨as, r1⟩ := Dp.reads I d x v hd rx
  obtain ⟨bs, r2⟩ := Dp.reads I e y u he ry
  exact PySem.W.lt_data r1 r2 ha hn (by omega) ⟨.bl _, H, I, rfl, q⟩
theorem geDK (K : Frag) (hu : X.A.units + 64 < cLine) (h : X.K = K := by rfl) : OpR X (compareOp .GtE) (rGeD K) := by
  subst h
  intro pins s σ H x y v u Q I rx ry h
  obtain ⟨d, e, hd, he, ha, hn, hdp, q⟩ := h
  obtain ⟨as, r1⟩ := Dp.reads I d x v hd rx
  obtain ⟨bs, r2⟩ := Dp.reads I e y u he ry
  exact PySem.W.ge_data r1 r2 ha hn (by omega) ⟨.bl _, H, I, rfl, q⟩
theorem leDK (K : Frag) (hu : X.A.units + 64 < cLine) (h : X.K = K := by rfl) : OpR X (compareOp .LtE) (rLeD K) := by
  subst h
  intro pins s σ H x y v u Q I rx ry h
  obtain ⟨d, e, hd, he, ha, hn, hdp, q⟩ := h
  obtain ⟨as, r1⟩ := Dp.reads I d x v hd rx
  obtain ⟨bs, r2⟩ := Dp.reads I e y u he ry
  exact PySem.W.le_data r1 r2 ha hn (by omega) ⟨.bl _, H, I, rfl, q⟩
end
section
variable {K : Frag} {H : Hp} {α : Type} [DecidableEq α] [PySem.W.DatumOrd α] {x y : V} {a b : α}
theorem rv_gtD (hx : ∀ H1, Ex H H1 → Dp K H1 x (PySem.W.Datum.toD a)) (hy : ∀ H1, Ex H H1 → Dp K H1 y (PySem.W.Datum.toD b)) (hd : PySem.W.Datum.depth α ≤ 60) : RV (rGtD K) x y H (.bl (PySem.W.DatumOrd.lt b a)) := fun H1 e Q q =>
  ⟨_, _, hx H1 e, hy H1 e, PySem.W.DatumOrd.alike a b, PySem.W.DatumOrd.notNone a, Nat.le_trans (PySem.W.Datum.depth_le a) hd, by rw [PySem.W.DatumOrd.lt_eq]; exact q H1 (Ex.refl _)⟩
theorem rv_ltD (hx : ∀ H1, Ex H H1 → Dp K H1 x (PySem.W.Datum.toD a)) (hy : ∀ H1, Ex H H1 → Dp K H1 y (PySem.W.Datum.toD b)) (hd : PySem.W.Datum.depth α ≤ 60) : RV (rLtD K) x y H (.bl (PySem.W.DatumOrd.lt a b)) := fun H1 e Q q =>
  ⟨_, _, hx H1 e, hy H1 e, PySem.W.DatumOrd.alike a b, PySem.W.DatumOrd.notNone a, Nat.le_trans (PySem.W.Datum.depth_le a) hd, by rw [PySem.W.DatumOrd.lt_eq]; exact q H1 (Ex.refl _)⟩
theorem rv_geD (hx : ∀ H1, Ex H H1 → Dp K H1 x (PySem.W.Datum.toD a)) (hy : ∀ H1, Ex H H1 → Dp K H1 y (PySem.W.Datum.toD b)) (hd : PySem.W.Datum.depth α ≤ 60) : RV (rGeD K) x y H (.bl (!PySem.W.DatumOrd.lt a b)) := fun H1 e Q q =>
  ⟨_, _, hx H1 e, hy H1 e, PySem.W.DatumOrd.alike a b, PySem.W.DatumOrd.notNone a, Nat.le_trans (PySem.W.Datum.depth_le a) hd, by rw [PySem.W.DatumOrd.lt_eq]; exact q H1 (Ex.refl _)⟩
theorem rv_leD (hx : ∀ H1, Ex H H1 → Dp K H1 x (PySem.W.Datum.toD a)) (hy : ∀ H1, Ex H H1 → Dp K H1 y (PySem.W.Datum.toD b)) (hd : PySem.W.Datum.depth α ≤ 60) : RV (rLeD K) x y H (.bl (!PySem.W.DatumOrd.lt b a)) := fun H1 e Q q =>
  ⟨_, _, hx H1 e, hy H1 e, PySem.W.DatumOrd.alike a b, PySem.W.DatumOrd.notNone a, Nat.le_trans (PySem.W.Datum.depth_le a) hd, by rw [PySem.W.DatumOrd.lt_eq]; exact q H1 (Ex.refl _)⟩
end
abbrev ltI (xs ys : List Int) : Bool := PySem.W.listLt xs ys
abbrev ltM (M N : List (List Int)) : Bool := PySem.W.listLt M N
theorem toD_I (xs : List Int) : PySem.W.Datum.toD xs = PyData.list (dI xs) := rfl
theorem toD_M (M : List (List Int)) : PySem.W.Datum.toD M = PyData.list (dM M) := rfl
theorem rv_gtI {K : Frag} {H : Hp} {a b : Addr} {xs ys : List Int} (ha : LI K H a xs) (hb : LI K H b ys) : RV (rGtD K) (.ref a) (.ref b) H (.bl (ltI ys xs)) :=
  rv_gtD (a := xs) (b := ys) (fun H1 e => (ha.mono e).dp) (fun H1 e => (hb.mono e).dp) (by decide)
end AT

/-! ## the least of data -/
namespace AT
open PySem PySem.Spec PyProof.Rows L2 Evl
section
variable {X : Cx}
def rMinD (K : Frag) : List V → Hp → VK → Prop := fun vs H Q => ∃ (a : Addr) (xs : List V) (d : PyData) (ds : List PyData), vs = [V.ref a] ∧ SqL K H a xs ∧ DpAll K H xs (d :: ds) ∧ PySem.W.AlikeAll (d :: ds) ∧ PyData.depthAll (d :: ds) ≤ 60 ∧
  ∀ (i : Nat) v, xs[i]? = some v → (d :: ds)[i]? = some (PySem.W.minD d ds) → Q v H
theorem minDK (K : Frag) (hc : X.calm = true) (hu : X.A.units + 64 < cLine) (h : X.K = K := by rfl) : CallR X (.builtin "min") (rMinD K) := by
  subst h
  intro pins s σ H vs us Q I r h
  obtain ⟨a, xs, d, ds, rfl, hs, hD, ha, hdp, q⟩ := h
  obtain ⟨its, rv, hl, _⟩ := I.list hs
  rw [Vals.ref1 r]
  obtain ⟨as, hr⟩ := Dp.readsAll I (d :: ds) xs its hD rv
  refine PySem.W.min_list_data (vs := its.toArray) (I.ok.hd hc) hl.isList (show ReadsAll s.heap its.toArray.toList (d :: ds) as from hr) ha (by omega) fun i v h' tk bs hv r' hk => ?_
  have hv' : its[i]? = some v := by rw [← hv]; simp
  have hil : i < its.length := (List.getElem?_eq_some_iff.mp hv').1
  obtain ⟨x, hx⟩ : ∃ x, xs[i]? = some x := by
    have hlen := rv.length
    exact ⟨_, List.getElem?_eq_getElem (by omega)⟩
  obtain ⟨u, hu1, hu2⟩ := rv.get hx
  rw [hv'] at hu1
  injection hu1 with hu1
  subst hu1
  obtain ⟨cs, r1, hil2, hmem, _⟩ := PySem.W.readsAll_at hr i v hv'
  have hmin : PySem.W.minD d ds ∈ d :: ds := by
    unfold PySem.W.minD
    have key : ∀ (l : List PyData) (a : PyData), l.foldl (fun a y => if PySem.W.dataLt y a then y else a) a ∈ a :: l := fun l => by
      induction l with
      | nil => exact fun a => List.mem_cons_self
      | cons y l ih =>
        intro a
        rw [List.foldl_cons]
        have := ih (if PySem.W.dataLt y a then y else a)
        rcases List.mem_cons.mp this with h | h
        · rw [h]
          split
          · exact List.mem_cons_of_mem _ List.mem_cons_self
          · exact List.mem_cons_self
        · exact List.mem_cons_of_mem _ (List.mem_cons_of_mem _ h)
    exact key ds d
  have e : (d :: ds).getD i PyData.none = PySem.W.minD d ds := PySem.W.alike_unique _ _ v _ _ (ha.1 _ hmem _ hmin) (Reads.keeps hk r1) r'
  refine ⟨x, H, I.kept hk, hu2, q i x hx ?_⟩
  rw [← e, List.getD_eq_getElem?_getD, List.getElem?_eq_getElem hil2]
  rfl
end
/-! ### an order without ties -/
structure Lin (α : Type) [DecidableEq α] [PySem.W.DatumOrd α] : Prop where
  irr : ∀ a : α, PySem.W.DatumOrd.lt a a = false
  tr : ∀ a b c : α, PySem.W.DatumOrd.lt a b = true → PySem.W.DatumOrd.lt b c = true → PySem.W.DatumOrd.lt a c = true
  tot : ∀ a b : α, a ≠ b → PySem.W.DatumOrd.lt a b = true ∨ PySem.W.DatumOrd.lt b a = true
theorem lin_int : Lin Int := ⟨fun a => by show decide (a < a) = false; simp, fun a b c h1 h2 => by
  have h1 : decide (a < b) = true := h1
  have h2 : decide (b < c) = true := h2
  show decide (a < c) = true
  rw [decide_eq_true_eq] at *
  omega, fun a b h => by
  show decide (a < b) = true ∨ decide (b < a) = true
  rw [decide_eq_true_eq, decide_eq_true_eq]
  omega⟩
section
variable {α : Type} [DecidableEq α] [PySem.W.DatumOrd α]
theorem lex_irr (L : Lin α) : ∀ xs : List α, PySem.W.listLt xs xs = false
  | [] => rfl
  | x :: xs => by
    rw [PySem.W.listLt, if_pos rfl]
    exact lex_irr L xs
theorem lex_tr (L : Lin α) : ∀ xs ys zs : List α, PySem.W.listLt xs ys = true → PySem.W.listLt ys zs = true → PySem.W.listLt xs zs = true
  | [], [], _, h, _ => by cases h
  | [], _ :: _, [], _, h => by cases h
  | [], _ :: _, _ :: _, _, _ => rfl
  | _ :: _, [], _, h, _ => by cases h
  | _ :: _, _ :: _, [], _, h => by cases h
  | x :: xs, y :: ys, z :: zs, h1, h2 => by
    rw [PySem.W.listLt] at h1 h2 ⊢
    by_cases e1 : x = y
    · subst e1
      rw [if_pos rfl] at h1
      by_cases e2 : x = z
      · rw [if_pos e2] at h2 ⊢
        exact lex_tr L xs ys zs h1 h2
      · rw [if_neg e2] at h2 ⊢
        exact h2
    · rw [if_neg e1] at h1
      by_cases e2 : y = z
      · subst e2
        rw [if_neg e1]
        exact h1
      · rw [if_neg e2] at h2
        have h3 := L.tr x y z h1 h2
        by_cases e3 : x = z
        · subst e3
          rw [L.irr x] at h3
          cases h3
        · rw [if_neg e3]
          exact h3
theorem lex_tot (L : Lin α) : ∀ xs ys : List α, xs ≠ ys → PySem.W.listLt xs ys = true ∨ PySem.W.listLt ys xs = true
  | [], [], h => absurd rfl h
  | [], _ :: _, _ => .inl rfl
  | _ :: _, [], _ => .inr rfl
  | x :: xs, y :: ys, h => by
    rw [PySem.W.listLt, PySem.W.listLt]
    by_cases e : x = y
    · rw [if_pos e, if_pos e.symm]
      exact lex_tot L xs ys fun z => h (by rw [e, z])
    · rw [if_neg e, if_neg (Ne.symm e)]
      exact L.tot x y e
theorem lin_list (L : Lin α) : Lin (List α) := ⟨lex_irr L, lex_tr L, lex_tot L⟩
theorem minOf_mem : ∀ (xs : List α) (x : α), PySem.W.minOf x xs ∈ x :: xs
  | [], x => List.mem_cons_self
  | y :: xs, x => by
    have e : PySem.W.minOf x (y :: xs) = PySem.W.minOf (if PySem.W.DatumOrd.lt y x = true then y else x) xs := rfl
    rw [e]
    rcases List.mem_cons.mp (minOf_mem xs (if PySem.W.DatumOrd.lt y x = true then y else x)) with h | h
    · rw [h]
      split
      · exact List.mem_cons_of_mem _ List.mem_cons_self
      · exact List.mem_cons_self
    · exact List.mem_cons_of_mem _ (List.mem_cons_of_mem _ h)
theorem lin_nlt (L : Lin α) {a b c : α} (h1 : PySem.W.DatumOrd.lt b a = false) (h2 : PySem.W.DatumOrd.lt c b = false) : PySem.W.DatumOrd.lt c a = false := by
  by_cases e1 : a = b
  · rw [e1]; exact h2
  · by_cases e2 : b = c
    · rw [← e2]; exact h1
    · have h3 := (L.tot a b e1).resolve_right (by rw [h1]; decide)
      have h4 := (L.tot b c e2).resolve_right (by rw [h2]; decide)
      have h5 := L.tr a b c h3 h4
      cases h : PySem.W.DatumOrd.lt c a with
      | false => rfl
      | true =>
        have := L.tr a c a h5 h
        rw [L.irr a] at this
        cases this
theorem minOf_le (L : Lin α) : ∀ (xs : List α) (x : α), ∀ y ∈ x :: xs, PySem.W.DatumOrd.lt y (PySem.W.minOf x xs) = false
  | [], x, y, hy => by
    rw [List.mem_singleton.mp hy]
    exact L.irr x
  | z :: xs, x, y, hy => by
    have e : PySem.W.minOf x (z :: xs) = PySem.W.minOf (if PySem.W.DatumOrd.lt z x = true then z else x) xs := rfl
    rw [e]
    have ih := minOf_le L xs (if PySem.W.DatumOrd.lt z x = true then z else x)
    rcases List.mem_cons.mp hy with rfl | hy
    · have h1 := ih _ List.mem_cons_self
      refine lin_nlt L h1 ?_
      split
      · rename_i h
        cases h2 : PySem.W.DatumOrd.lt y z with
        | false => rfl
        | true =>
          have := L.tr _ _ _ h h2
          rw [L.irr] at this
          cases this
      · exact L.irr y
    · rcases List.mem_cons.mp hy with rfl | hy
      · have h1 := ih _ List.mem_cons_self
        refine lin_nlt L h1 ?_
        split
        · exact L.irr y
        · rename_i h
          simpa using h
      · exact ih y (List.mem_cons_of_mem _ hy)
theorem min_uniq (L : Lin α) {x x' : α} {xs xs' : List α} (h : ∀ y, y ∈ x :: xs ↔ y ∈ x' :: xs') : PySem.W.minOf x xs = PySem.W.minOf x' xs' := by
  have h1 := minOf_le L xs x _ ((h _).mpr (minOf_mem xs' x'))
  have h2 := minOf_le L xs' x' _ ((h _).mp (minOf_mem xs x))
  by_cases e : PySem.W.minOf x xs = PySem.W.minOf x' xs'
  · exact e
  · rcases L.tot _ _ e with z | z
    · rw [h2] at z; cases z
    · rw [h1] at z; cases z
theorem toD_inj {a b : α} (h : PySem.W.Datum.toD a = PySem.W.Datum.toD b) : a = b := by
  have h1 := PySem.W.Datum.eqv a b
  rw [h, PySem.W.Datum.eqv b b] at h1
  exact of_decide_eq_true (by rw [← h1]; simp)
end
abbrev Mat := List (List Int)
theorem lin_M : Lin Mat := lin_list (lin_list lin_int)
/-- the least of them, none of none -/
def minL : List Mat → Mat
  | [] => []
  | x :: xs => PySem.W.minOf x xs
theorem minL_mem {l : List Mat} (h : l ≠ []) : minL l ∈ l := by
  cases l with
  | nil => exact absurd rfl h
  | cons x xs => exact minOf_mem xs x
theorem minL_eq {l l' : List Mat} (h : ∀ y, y ∈ l ↔ y ∈ l') : minL l = minL l' := by
  cases l with
  | nil =>
    cases l' with
    | nil => rfl
    | cons x xs => exact absurd ((h x).mpr List.mem_cons_self) (by simp)
  | cons x xs =>
    cases l' with
    | nil => exact absurd ((h x).mp List.mem_cons_self) (by simp)
    | cons y ys => exact min_uniq lin_M h
section
variable {K : Frag} {σ : St} {H : Hp} {te : TE}
theorem dpAll_RM {H1 H2 : Hp} {M : Nat → Mat} : ∀ {vs : List V} {idx : List Nat}, Paired (fun v j => RM (M j) H1 H2 v) vs idx → DpAll K H2 vs (idx.map fun j => PySem.W.Datum.toD (M j))
  | _, _, .nil => .nil
  | _, _, .cons ⟨_, hv, hO⟩ t => by
    subst hv
    exact .cons hO.lli.dp (dpAll_RM t)
theorem er_minRM {idx : List Nat} {M : Nat → Mat} (h : Er te σ H (RLs idx fun i => RM (M i))) (hne : idx ≠ []) : Er (tCB (rMinD K) (tCons te tNil)) σ H (RM (minL (idx.map M))) := fun H1 e Q q =>
  h H1 e _ fun v H2 e2 ⟨p, vs, hv, hp, hp2, hP⟩ => by
    subst hv
    cases idx with
    | nil => exact absurd rfl hne
    | cons i0 idx =>
      have hmap : ∀ l : List Nat, (l.map fun j => (PySem.W.Datum.toD (M j) : PyData)) = (l.map M).map PySem.W.Datum.toD := fun l => by rw [List.map_map]; rfl
      have hD := dpAll_RM (K := K) hP
      rw [hmap] at hD
      refine ⟨p, vs, PySem.W.Datum.toD (M i0), (idx.map M).map PySem.W.Datum.toD, rfl, sq_of hp2, hD, ⟨fun x hx y hy => ?_, fun x hx => ?_⟩, ?_, fun i v hvi hdi => ?_⟩
      · obtain ⟨x, _, rfl⟩ := List.mem_map.mp (show x ∈ (M i0 :: idx.map M).map PySem.W.Datum.toD from hx)
        obtain ⟨y, _, rfl⟩ := List.mem_map.mp (show y ∈ (M i0 :: idx.map M).map PySem.W.Datum.toD from hy)
        exact PySem.W.DatumOrd.alike x y
      · obtain ⟨x, _, rfl⟩ := List.mem_map.mp (show x ∈ (M i0 :: idx.map M).map PySem.W.Datum.toD from hx)
        exact PySem.W.DatumOrd.notNone x
      · exact Nat.le_trans (PySem.W.depthAll_map (M i0 :: idx.map M)) (by decide)
      · obtain ⟨j, hj1, hj2⟩ := paired_getL hP hvi
        rw [PySem.W.minD_map] at hdi
        have h3 : ((M i0 :: idx.map M).map PySem.W.Datum.toD)[i]? = some (PySem.W.Datum.toD (PySem.W.minOf (M i0) (idx.map M))) := hdi
        rw [← List.map_cons, List.getElem?_map, List.getElem?_map, hj1] at h3
        have h4 : PySem.W.Datum.toD (M j) = PySem.W.Datum.toD (PySem.W.minOf (M i0) (idx.map M)) := Option.some.inj h3
        have h5 : M j = minL ((i0 :: idx).map M) := toD_inj h4
        refine q v H2 e2 ?_
        rw [← h5]
        exact hj2
end
end AT

/-! ## // of any size; [.. for x, y in zip(a, b)]; rows put in their place -/
namespace AT
open PySem PySem.Spec PyProof.Rows L2 Evl
def CFdX (_ j : Int) : Prop := j ≠ 0 ∧ j.natAbs.log2 < 9000
theorem op_fdivX {X : Cx} : OpR X (binaryOp .FloorDiv) (rI CFdX fun i j => .int (i.fdiv j)) := opI fun _ _ _ _ _ _ _ hc q => floordiv_int hc.1 q (.inl (PyProof.noPylong_of_log2 hc.2))
section
variable {K : Frag} {σ : St} {H H0 : Hp} {te ta tb : TE} {a b p : Addr} {D : Ends} {tz : TS}
theorem el_lcZ {tA : TA} {i1 i2 : Nat} {vs : List Nat} {xs ys : List V} (v : Nat → V) (h : EvA tA σ H [.ref a, .ref b]) (ha : SqL K H a xs) (hb : SqL K H b ys) (hl : xs.length = ys.length) (hz : xs.length ≤ 40000)
    (hw : ∀ x y, wipe (((wipe σ vs).set i1 (some x)).set i2 (some y)) vs = wipe σ vs)
    (he : ∀ (i : Nat) x y H1, Ex H H1 → xs[i]? = some x → ys[i]? = some y → Ev te (((wipe σ vs).set i1 (some x)).set i2 (some y)) H1 (v i)) :
    EvL (tLc (iZip K tA) (gTup K 2 (gCons (gName i1) (gCons (gName i2) gNil))) tYes te vs) σ H (given xs.length (fun _ => true) v) := fun H0 e Q q => h H0 e _ fun H1 e1 =>
  ⟨a, b, xs, ys, rfl, ex_l (e.trans e1) ha, ex_l (e.trans e1) hb, fun Dl hD =>
    lc_it (walk_zip (xs := xs) (ys := ys) (n := xs.length) (by omega)) (Cw H1 (fun _ => true) v Dl) ⟨hD, Ex.new hD, upd_same⟩ (fun i H' _ p => ⟨ex_l ((e.trans e1).trans p.2.1) ha, ex_l ((e.trans e1).trans p.2.1) hb⟩)
      (fun i z H' H'' hi p ⟨T, x, y, hz', hT, hH, hx, hy⟩ => by
        subst hz'; subst hH
        have eT : Ex H' (upd H' T (.tup [x, y])) := Ex.new hT
        refine ⟨T, [x, y], rfl, st_of upd_same, rfl, x, [y], rfl, y, [], rfl, rfl, hw x y, ?_⟩
        exact cw_turn (f := fun _ => true) ⟨p.1, p.2.1.trans eT, eT _ _ p.2.2⟩ (by omega) (fun G1 g1 Q' q' => q' G1 (Ex.refl _)) fun _ => he i x y H1 (e.trans e1) hx hy)
      (fun H' p => q Dl H' (fresh_back e1 p.1) (e1.trans p.2.1) p.2.2)⟩
theorem given_all (n : Nat) (w : Nat → Int) : given n (fun _ => true) (fun j => .int (w j)) = ((List.range n).map w).map V.int := by
  unfold given
  rw [filt_all, List.map_map]
  rfl
/-- rows of our own list: each may stand anywhere, but not in the list's place -/
def RA (H0 H : Hp) (p : Addr) (M : List (List Int)) : Prop := H0 p = none ∧ ∃ as : List Addr, H p = some (.lst (as.map V.ref)) ∧ p ∉ as ∧ Paired (fun x r => H x = some (.lst (r.map V.int))) as M
theorem RA.mono {H' : Hp} {M : List (List Int)} (e : Ex H H') (h : RA H0 H p M) : RA H0 H' p M := by
  obtain ⟨h0, as, h1, h2, h3⟩ := h
  exact ⟨h0, as, e _ _ h1, h2, paired_mono h3 fun x r z => e _ _ z⟩
theorem RA.lli {M : List (List Int)} (h : RA H0 H p M) : LLI K H p M := by
  obtain ⟨h0, as, h1, h2, h3⟩ := h
  exact ⟨as, sq_of h1, paired_mono h3 fun x r z => sq_of z⟩
theorem OLLI.ra {M : List (List Int)} (h : OLLI H0 H p M) : RA H0 H p M := by
  obtain ⟨as, h1, h2, h3, h4⟩ := h
  rw [List.nodup_cons] at h3
  exact ⟨h1, as, h2, h3.1, paired_mono h4 fun x r z => z.2⟩
theorem paired_put {α β : Type} {F : α → β → Prop} : ∀ {l₁ : List α} {l₂ : List β} {i : Nat} {x : α} {y : β}, Paired F l₁ l₂ → F x y → Paired F (l₁.set i x) (l₂.set i y)
  | _, _, _, _, _, .nil, _ => .nil
  | _, _, 0, _, _, .cons _ t, h => .cons h t
  | _, _, i + 1, _, _, .cons r t, h => .cons r (paired_put t h)
/-- p[i] = a list of ints -/
theorem RA.put {M : List (List Int)} {i : Nat} (h : RA H0 H p M) : ∃ vs : List V, H p = some (.lst vs) ∧ vs.length = M.length ∧ ∀ H1 r row, Ex H H1 → H1 r = some (.lst (row.map V.int)) → r ≠ p → RA H0 (upd H1 p (.lst (vs.set i (.ref r)))) p (M.set i row) := by
  obtain ⟨h0, as, h1, h2, h3⟩ := h
  refine ⟨as.map V.ref, h1, by rw [List.length_map, h3.length], fun H1 r row e hr hne => ⟨h0, as.set i r, by rw [upd_same, List.map_set], ?_, ?_⟩⟩
  · intro hm
    rcases List.mem_or_eq_of_mem_set hm with hm | hm
    · exact h2 hm
    · exact hne hm.symm
  · have h4 : Paired (fun x r => H1 x = some (.lst (r.map V.int))) (as.set i r) (M.set i row) := paired_put (paired_mono h3 fun x r z => e _ _ z) hr
    refine paired_mem_mono h4 fun x r' hx z => ?_
    rw [upd_ne]
    · exact z
    · intro hxp
      subst hxp
      rcases List.mem_or_eq_of_mem_set hx with hm | hm
      · exact h2 hm
      · exact hne hm.symm
theorem s_setRow {M : List (List Int)} {i : Nat} {row : List Int} (h : RA H0 H p M) (he : EvL te σ H (row.map V.int)) (ho : Ev ta σ H (.ref p)) (hi : Ev tb σ H (.int (i : Int))) (hin : i < M.length) (e0 : Ex H0 H)
    (k : ∀ H1, Ex H0 H1 → RA H0 H1 p (M.set i row) → D.nx σ H1) : tAsg te (gSub ta tb rSetL) D σ H := by
  obtain ⟨vs, h1, h2, h3⟩ := h.put (i := i)
  refine he H (Ex.refl H) _ fun r H1 hr e1 hr1 => ho H1 e1 _ fun H2 e2 => hi H2 (e1.trans e2) _ fun H3 e3 => ?_
  have hne : r ≠ p := fun z => by
    subst z
    rw [h1] at hr
    cases hr
  exact ⟨p, vs, (i : Int), i, rfl, rfl, ((e1.trans e2).trans e3) p _ h1, ixN_nat (by omega), k _ (Ex.mut (((e0.trans e1).trans e2).trans e3) h.1) (h3 _ _ _ ((e1.trans e2).trans e3) ((e2.trans e3) _ _ hr1) hne)⟩
/-- p[i] = r, a row that stands -/
theorem q_setRef {M : List (List Int)} {i : Nat} {r : Addr} {row : List Int} (h : RA H0 H p M) (he : Ev te σ H (.ref r)) (hr : H r = some (.lst (row.map V.int))) (hne : r ≠ p) (ho : Ev ta σ H (.ref p)) (hi : Ev tb σ H (.int (i : Int))) (hin : i < M.length) (e0 : Ex H0 H)
    (k : ∀ H1, Ex H0 H1 → RA H0 H1 p (M.set i row) → (∀ (x : Addr) o, x ≠ p → H x = some o → H1 x = some o) → tz D σ H1) : tSeq (tAsg te (gSub ta tb rSetL)) tz D σ H := by
  obtain ⟨vs, h1, h2, h3⟩ := h.put (i := i)
  refine he H (Ex.refl H) _ fun H1 e1 => ho H1 e1 _ fun H2 e2 => hi H2 (e1.trans e2) _ fun H3 e3 => ?_
  exact ⟨p, vs, (i : Int), i, rfl, rfl, ((e1.trans e2).trans e3) p _ h1, ixN_nat (by omega), k _ (Ex.mut (((e0.trans e1).trans e2).trans e3) h.1) (h3 _ _ _ ((e1.trans e2).trans e3) (((e1.trans e2).trans e3) _ _ hr) hne) fun x o hx hH => by
    rw [upd_ne hx]
    exact ((e1.trans e2).trans e3) _ _ hH⟩
end
end AT

/-! ## a op b op c op d; sorted of data; in, not in, index of data -/
theorem L2.Room.units65 {k : Nat} {A : PySem.Around} (r : L2.Room k A) : A.units + 65 < PySem.cLine := by have := r.un; omega
namespace AT
open PySem PySem.Spec PyProof.Rows L2 Evl
section
variable {X : Cx} {a b c d : Expr} {ta tb tc td : TE} {pos : Pos}
def tChain3 (r r' r'' : R2) (ta tb tc td : TE) : TE := fun σ H Q => ta σ H fun x H1 => tb σ H1 fun y H2 => r x y H2 fun z H3 => ∃ k, z = .bl k ∧
  (if k = true then tc σ H3 fun w' H4 => r' y w' H4 fun z' H5 => ∃ k', z' = .bl k' ∧ (if k' = true then td σ H5 fun u' H6 => r'' w' u' H6 Q else Q (.bl false) H5) else Q (.bl false) H3)
theorem pe_chain3 {op op' op'' : CmpOp} {r r' r'' : R2} (ho : OpR X (compareOp op) r) (ho' : OpR X (compareOp op') r') (ho'' : OpR X (compareOp op'') r'') (ha : PE X a ta) (hb : PE X b tb) (hc : PE X c tc) (hd : PE X d td)
    (hm : lastMarks [op, op', op''] [b, c, d] = false := by with_unfolding_all rfl) : PE X (.Compare a [op, op', op''] [b, c, d] pos) (tChain3 r r' r'' ta tb tc td) := by
  refine ⟨fun pins s σ H Q I h => ?_⟩
  refine Compare_chain (thn (ha.run pins s σ H _ I h) fun v s1 ⟨x, H1, I1, r1, q1⟩ => chain_link (thn (hb.run pins s1 σ H1 _ I1 q1) fun u s2 ⟨y, H2, I2, r2, q2⟩ =>
    thn (ho pins s2 σ H2 x y v u _ I2 r1 r2 q2) fun d' s3 ⟨z, H3, I3, r3, k, e, q3⟩ => ?_)) hm
  subst e
  cases r3
  refine wpAny_truthy_bool ?_
  cases k with
  | false => exact ite_ff ⟨.bl false, H3, I3, rfl, q3⟩
  | true =>
    refine ite_tt (chain_link (thn (hc.run pins s3 σ H3 _ I3 q3) fun w' s4 ⟨z', H4, I4, r4, q4⟩ => thn (ho' pins s4 σ H4 y z' u w' _ I4 r2 r4 q4) fun d2 s5 ⟨z2, H5, I5, r5, k2, e2, q5⟩ => ?_))
    subst e2
    cases r5
    refine wpAny_truthy_bool ?_
    cases k2 with
    | false => exact ite_ff ⟨.bl false, H5, I5, rfl, q5⟩
    | true => exact ite_tt (chain_last (thn (hd.run pins s5 σ H5 _ I5 q5) fun w2 s6 ⟨z3, H6, I6, r6, q6⟩ => ho'' pins s6 σ H6 z' z3 w' w2 Q I6 r4 r6 q6))
theorem inDK (K : Frag) (hu : X.A.units + 65 < cLine) (h : X.K = K := by rfl) : OpR X (compareOp .In) (rInD K) := by subst h; exact op_inD hu
theorem ninDK (K : Frag) (hu : X.A.units + 65 < cLine) (h : X.K = K := by rfl) : OpR X (compareOp .NotIn) (rNotInD K) := by subst h; exact op_notInD hu
theorem mt_indexDK (K : Frag) (hu : X.A.units + 65 < cLine) (h : X.K = K := by rfl) : MtR X "list.index" (rIndexD K) := by subst h; exact mt_indexD hu
/-- sorted(xs) of data: the same items in order -/
def rSortedD (K : Frag) : List V → Hp → VK → Prop := fun vs H Q => ∃ (a : Addr) (bs : List (V × PyData)), vs = [V.ref a] ∧ SqL K H a (bs.map (·.1)) ∧ DpAll K H (bs.map (·.1)) (bs.map (·.2)) ∧ PySem.W.AllAlike (bs.map (·.2)) ∧ PySem.W.Sortable (bs.map (·.2)) ∧
  bs.length ≤ 100000 ∧ (∀ b, b ∈ bs → b.2.depth ≤ 60) ∧ ∀ p, H p = none → Q (.ref p) (upd H p (.lst ((bs.mergeSort (PySem.W.dataLe false (·.2))).map (·.1))))
theorem each_vals : ∀ {bs : List (V × PyData)} {us : List Value}, Vals (bs.map (·.1)) us → PySem.W.EachIs (fun v (b : V × PyData) => RelV b.1 v) us bs
  | [], _, h => by cases h; exact .nil
  | b :: bs, _, h => by
    cases h with
    | cons r t => exact .cons r (each_vals t)
theorem vals_each : ∀ {bs : List (V × PyData)} {us : List Value}, PySem.W.EachIs (fun v (b : V × PyData) => RelV b.1 v) us bs → Vals (bs.map (·.1)) us
  | [], _, h => by cases h; exact .nil
  | b :: bs, _, h => by
    cases h with
    | cons r t => exact .cons r (vals_each t)
theorem each_reads {h : Heap} : ∀ {bs : List (V × PyData)} {us : List Value} {as : List Addr}, ReadsAll h us (bs.map (·.2)) as → PySem.W.EachIs (fun v (b : V × PyData) => ∃ as, Reads h v b.2 as) us bs
  | [], _, _, h => by cases h; exact .nil
  | b :: bs, _, _, h => by
    cases h with
    | cons r t => exact .cons ⟨_, r⟩ (each_reads t)
theorem sortedDK (K : Frag) (hu : X.A.units + 64 < cLine) (h : X.K = K := by rfl) : CallR X (.builtin "sorted") (rSortedD K) := by
  subst h
  intro pins s σ H vs us Q I r h
  obtain ⟨a, bs, rfl, hs, hD, hal, hk, hl0, hdp, q⟩ := h
  obtain ⟨its, rv, hl, _⟩ := I.list hs
  rw [Vals.ref1 r]
  obtain ⟨as, hr⟩ := Dp.readsAll I (bs.map (·.2)) _ its hD rv
  refine PySem.W.sorted_data (vs := its) (bs := bs) (enc := fun b => b.2) (R := fun v b => RelV b.1 v) hl.isList (each_vals rv) (each_reads hr) hal hk (Nat.le_trans hl0 (by decide)) (fun b hb => by have := hdp b hb; omega) fun out hlen hout => ?_
  obtain ⟨ep, he'⟩ := PyProof.Rows.sortedAll_at s.heap its out.toArray
  have hlen2 : ((bs.mergeSort (PySem.W.dataLe false (·.2))).map (·.1)).length ≤ sizeLine := by rw [List.length_map, List.length_mergeSort]; exact Nat.le_trans hl0 (by decide)
  exact ⟨.ref _, upd H (s.heap.objs.size + 1) (.lst ((bs.mergeSort (PySem.W.dataLe false (·.2))).map (·.1))), I.laid (t' := s.toks) (fun _ _ => PyProof.Rows.sortedAll_old) (Nat.le_succ _) ⟨hlen2, out, ep, vals_each hout, he'⟩, rfl, q _ (I.hok.fresh (Nat.le_succ _))⟩
end
end AT

/-! ## lists of pairs of ints -/
namespace AT
open PySem PySem.Spec PyProof.Rows L2 Evl
abbrev Ln := Int × Int
def ltP (p q : Ln) : Bool := PySem.W.DatumOrd.lt p q
def PT (K : Frag) (H : Hp) (x : Addr) (p : Ln) : Prop := SqT K H x [V.int p.1, V.int p.2]
def LP (K : Frag) (H : Hp) (a : Addr) (ls : List Ln) : Prop := ∃ as : List Addr, SqL K H a (as.map V.ref) ∧ Paired (fun x p => PT K H x p) as ls
/-- a new list of them -/
def OLP (K : Frag) (H0 H : Hp) (a : Addr) (ls : List Ln) : Prop := H0 a = none ∧ ∃ as : List Addr, H a = some (.lst (as.map V.ref)) ∧ Paired (fun x p => PT K H x p) as ls
def RLP (K : Frag) (ls : List Ln) : R3 := fun H1 H2 v => ∃ p, v = .ref p ∧ OLP K H1 H2 p ls
theorem idx_firstG {α : Type} [BEq α] [LawfulBEq α] : ∀ {xs : List α} {k z : α} {m : Nat}, m < xs.idxOf k → xs[m]? = some z → z ≠ k
  | [], _, _, _, _, hz => by simp at hz
  | x :: xs, k, z, m, hm, hz => by
    rw [List.idxOf_cons] at hm
    by_cases e : x = k
    · subst e
      simp at hm
    · have e2 : (x == k) = false := by simpa using e
      rw [e2] at hm
      cases m with
      | zero =>
        have : x = z := by simpa using hz
        rw [← this]
        exact e
      | succ m => exact idx_firstG (xs := xs) (m := m) (by simpa using hm) (by simpa using hz)
section
variable {K : Frag} {H H0 H1 H2 : Hp} {σ : St} {a x y : Addr} {p q : Ln} {ls : List Ln} {ta tb te : TE}
theorem PT.mono (e : Ex H H1) (h : PT K H x p) : PT K H1 x p := ex_t e h
theorem LP.mono (e : Ex H H1) (h : LP K H a ls) : LP K H1 a ls := by
  obtain ⟨as, h1, h2⟩ := h
  exact ⟨as, ex_l e h1, paired_mono h2 fun _ _ z => z.mono e⟩
theorem OLP.lp (h : OLP K H0 H a ls) : LP K H a ls := by
  obtain ⟨_, as, h1, h2⟩ := h
  exact ⟨as, sq_of h1, h2⟩
theorem OLP.mono (e : Ex H H1) (h : OLP K H0 H a ls) : OLP K H0 H1 a ls := by
  obtain ⟨h0, as, h1, h2⟩ := h
  exact ⟨h0, as, e _ _ h1, paired_mono h2 fun _ _ z => z.mono e⟩
theorem OLP.back (e : Ex H0 H1) (h : OLP K H1 H a ls) : OLP K H0 H a ls := ⟨fresh_back e h.1, h.2⟩
theorem mon_RLP {ls : List Ln} : Mon (RLP K ls) := ⟨fun e ⟨p, h, q⟩ => ⟨p, h, q.mono e⟩, fun e ⟨p, h, q⟩ => ⟨p, h, q.back e⟩⟩
theorem PT.dp (h : PT K H x p) : Dp K H (.ref x) (PySem.W.Datum.toD p) := .tup h (.cons (.int _) (.cons (.int _) .nil))
theorem dpAll_lines : ∀ {as : List Addr} {ls : List Ln}, Paired (fun x p => PT K H x p) as ls → DpAll K H (as.map V.ref) (ls.map PySem.W.Datum.toD)
  | _, _, .nil => .nil
  | _, _, .cons r t => .cons r.dp (dpAll_lines t)
theorem LP.dp (h : LP K H a ls) : Dp K H (.ref a) (.list (ls.map PySem.W.Datum.toD)) := by
  obtain ⟨as, h1, h2⟩ := h
  exact .lst h1 (dpAll_lines h2)
theorem LP.len (h : LP K H a ls) : ∃ as : List Addr, SqL K H a (as.map V.ref) ∧ as.length = ls.length := by
  obtain ⟨as, h1, h2⟩ := h
  exact ⟨as, h1, h2.length⟩
theorem ev_lenLP (ha : Ev ta σ H (.ref a)) (h : LP K H a ls) : Ev (tCB (rLenS K) (tCons ta tNil)) σ H (.int (ls.length : Int)) := by
  obtain ⟨as, h1, h2⟩ := h.len
  have := ev_len (K := K) ha h1
  rw [List.length_map, h2] at this
  exact this
theorem LP.at {i : Nat} (h : LP K H a ls) (hp : ls[i]? = some p) : ∃ x, RV (rIxL K) (.ref a) (.int (i : Int)) H (.ref x) ∧ PT K H x p := by
  obtain ⟨as, h1, h2⟩ := h
  obtain ⟨x, hx, hq⟩ := paired_get h2 hp
  exact ⟨x, rv_ixL h1 (atI_n (by rw [List.getElem?_map, hx]; rfl)), hq⟩
theorem ev_p1 (ha : Ev ta σ H (.ref x)) (hb : Ev tb σ H (.int 0)) (h : PT K H x p) : Ev (tOp (rIxT K) ta tb) σ H (.int p.1) := ev_op ha hb (rv_ixT h rfl)
theorem ev_p2 (ha : Ev ta σ H (.ref x)) (hb : Ev tb σ H (.int 1)) (h : PT K H x p) : Ev (tOp (rIxT K) ta tb) σ H (.int p.2) := ev_op ha hb (rv_ixT h rfl)
theorem canLay_lines : ∀ ls : List Ln, PyData.canLayAll0 (ls.map PySem.W.Datum.toD) = true
  | [] => by simp [PyData.canLayAll0]
  | p :: ls => by
    have h : PyData.canLay0 (PySem.W.Datum.toD p) = true := by
      show PyData.canLay0 (.tuple [.int p.1, .int p.2]) = true
      simp [PyData.canLay0, PyData.canLayAll0]
    simp only [List.map_cons, PyData.canLayAll0, h, canLay_lines ls, Bool.and_self]
theorem shaped_P (p : Ln) : SeqAt.shaped (PySem.W.Datum.toD p) = true := by
  show SeqAt.shaped (.tuple [.int p.1, .int p.2]) = true
  unfold SeqAt.shaped
  rw [Bool.and_eq_true]
  exact ⟨by simp [PyData.canLay0, PyData.canLayAll0], decide_eq_true (by simp [PyData.depth, PyData.depthAll])⟩
theorem shaped_LP (ls : List Ln) : SeqAt.shaped (.list (ls.map PySem.W.Datum.toD)) = true := by
  unfold SeqAt.shaped
  rw [Bool.and_eq_true]
  have h2 : PyData.depthAll (ls.map (PySem.W.Datum.toD : Ln → PyData)) ≤ 1 := PySem.W.depthAll_map ls
  refine ⟨by simp only [PyData.canLay0]; exact canLay_lines ls, decide_eq_true ?_⟩
  simp only [PyData.depth]
  omega
theorem rv_eqP (hx : PT K H x p) (hy : PT K H y q) : RV (rEqD K) (.ref x) (.ref y) H (.bl (decide (p = q))) := fun G g Q k =>
  ⟨_, _, (hx.mono g).dp, (hy.mono g).dp, shaped_P p, shaped_P q, by rw [PySem.W.Datum.eqv]; exact k G (Ex.refl _)⟩
theorem rv_neP (hx : PT K H x p) (hy : PT K H y q) : RV (rNeD K) (.ref x) (.ref y) H (.bl (!decide (p = q))) := fun G g Q k =>
  ⟨_, _, (hx.mono g).dp, (hy.mono g).dp, shaped_P p, shaped_P q, by rw [PySem.W.Datum.eqv]; exact k G (Ex.refl _)⟩
theorem rv_geP (hx : PT K H x p) (hy : PT K H y q) : RV (rGeD K) (.ref x) (.ref y) H (.bl (!ltP p q)) := rv_geD (a := p) (b := q) (fun G g => (hx.mono g).dp) (fun G g => (hy.mono g).dp) (by decide)
theorem any_lines (p : Ln) : ∀ ls : List Ln, ((ls.map PySem.W.Datum.toD).any fun z => PyData.eqv z (PySem.W.Datum.toD p)) = decide (p ∈ ls)
  | [] => by simp
  | q :: ls => by
    rw [List.map_cons, List.any_cons, any_lines p ls, PySem.W.Datum.eqv]
    by_cases h : q = p
    · subst h; simp
    · have : ¬ p = q := fun z => h z.symm
      simp [h, this]
theorem rv_inP (hx : PT K H x p) (ha : LP K H a ls) : RV (rInD K) (.ref x) (.ref a) H (.bl (decide (p ∈ ls))) := fun G g Q k =>
  ⟨_, _, (hx.mono g).dp, (ha.mono g).dp, shaped_P p, shaped_LP ls, by rw [any_lines]; exact k G (Ex.refl _)⟩
theorem rv_ninP (hx : PT K H x p) (ha : LP K H a ls) : RV (rNotInD K) (.ref x) (.ref a) H (.bl (!decide (p ∈ ls))) := fun G g Q k =>
  ⟨_, _, (hx.mono g).dp, (ha.mono g).dp, shaped_P p, shaped_LP ls, by rw [any_lines]; exact k G (Ex.refl _)⟩
theorem rv_eqLP {b : Addr} {ms : List Ln} (ha : LP K H a ls) (hb : LP K H b ms) : RV (rEqD K) (.ref a) (.ref b) H (.bl (decide (ls = ms))) := fun G g Q k =>
  ⟨_, _, (ha.mono g).dp, (hb.mono g).dp, shaped_LP ls, shaped_LP ms, by
    have := PySem.W.Datum.eqv ls ms
    have e : PyData.eqv (.list (ls.map PySem.W.Datum.toD)) (.list (ms.map PySem.W.Datum.toD)) = decide (ls = ms) := this
    rw [e]; exact k G (Ex.refl _)⟩
theorem rv_neLP {b : Addr} {ms : List Ln} (ha : LP K H a ls) (hb : LP K H b ms) : RV (rNeD K) (.ref a) (.ref b) H (.bl (!decide (ls = ms))) := fun G g Q k =>
  ⟨_, _, (ha.mono g).dp, (hb.mono g).dp, shaped_LP ls, shaped_LP ms, by
    have := PySem.W.Datum.eqv ls ms
    have e : PyData.eqv (.list (ls.map PySem.W.Datum.toD)) (.list (ms.map PySem.W.Datum.toD)) = decide (ls = ms) := this
    rw [e]; exact k G (Ex.refl _)⟩
/-- ls.index(p) -/
theorem ev_indexP (ha : Ev ta σ H (.ref a)) (hb : Ev tb σ H (.ref x)) (hL : LP K H a ls) (hx : PT K H x p) (hm : p ∈ ls) : Ev (tBM K "list" (rIndexD K) ta (tCons tb tNil)) σ H (.int ((ls.idxOf p : Nat) : Int)) := fun G g Q k =>
  ha G g _ fun G2 g2 => by
    obtain ⟨as, h1, _⟩ := id hL
    refine ⟨.inl ⟨rfl, _, ex_l (g.trans g2) h1⟩, hb G2 (g.trans g2) _ fun G3 g3 => ?_⟩
    have hl := List.idxOf_lt_length_iff.mpr hm
    refine ⟨a, .ref x, _, _, ls.idxOf p, PySem.W.Datum.toD p, rfl, rfl, (hL.mono ((g.trans g2).trans g3)).dp, (hx.mono ((g.trans g2).trans g3)).dp, shaped_LP ls, shaped_P p, ?_, ?_, fun m z' hm' hz => ?_, k G3 (g2.trans g3)⟩
    · rw [List.getElem?_map, List.getElem?_eq_getElem hl, List.getElem_idxOf]
      rfl
    · rw [PySem.W.Datum.eqv]; simp
    · rw [List.getElem?_map] at hz
      cases hq : ls[m]? with
      | none => rw [hq] at hz; cases hz
      | some q =>
        rw [hq] at hz
        cases hz
        rw [PySem.W.Datum.eqv]
        refine decide_eq_false fun e => ?_
        exact idx_firstG hm' hq e
end
/-! ### in order -/
def leP (p q : Ln) : Bool := !ltP q p
def sortP (ls : List Ln) : List Ln := ls.mergeSort leP
section
variable {K : Frag} {H H1 : Hp} {σ : St} {a : Addr} {ls : List Ln} {te : TE}
theorem zip_of : ∀ {as : List Addr} {ls : List Ln}, as.length = ls.length → as = (as.zip ls).map (·.1) ∧ ls = (as.zip ls).map (·.2)
  | [], [], _ => ⟨rfl, rfl⟩
  | [], _ :: _, h => by simp at h
  | _ :: _, [], h => by simp at h
  | x :: as, p :: ls, h => by
    obtain ⟨h1, h2⟩ := zip_of (as := as) (ls := ls) (by simpa using h)
    exact ⟨by rw [List.zip_cons_cons, List.map_cons, ← h1], by rw [List.zip_cons_cons, List.map_cons, ← h2]⟩
theorem paired_zip {F : Addr → Ln → Prop} : ∀ {as : List Addr} {ls : List Ln}, Paired F as ls → ∀ z ∈ as.zip ls, F z.1 z.2
  | _, _, .nil, z, h => by simp at h
  | _, _, .cons r t, z, h => by
    rw [List.zip_cons_cons] at h
    rcases List.mem_cons.mp h with rfl | h
    · exact r
    · exact paired_zip t z h
theorem paired_of_zip {F : Addr → Ln → Prop} : ∀ {zs : List (Addr × Ln)}, (∀ z ∈ zs, F z.1 z.2) → Paired F (zs.map (·.1)) (zs.map (·.2))
  | [], _ => .nil
  | z :: zs, h => .cons (h z List.mem_cons_self) (paired_of_zip fun y hy => h y (List.mem_cons_of_mem _ hy))
theorem er_sortedP {R : R3} (h : Er te σ H R) (hR : ∀ G1 G2 v, R G1 G2 v → ∃ b, v = .ref b ∧ LP K G2 b ls) (hl : ls.length ≤ 10000) : Er (tCB (rSortedD K) (tCons te tNil)) σ H (RLP K (sortP ls)) := fun H1 e Q q =>
  h H1 e _ fun v H2 e2 hv => by
    obtain ⟨b, rfl, as, h1, h2⟩ := hR H1 H2 v hv
    obtain ⟨z1, z2⟩ := zip_of h2.length
    have hz := paired_zip h2
    generalize as.zip ls = zs at *
    subst z1; subst z2
    let f : Addr × Ln → V × PyData := fun z => (V.ref z.1, PySem.W.Datum.toD z.2)
    have e1 : (zs.map f).map (·.1) = (zs.map (·.1)).map V.ref := by rw [List.map_map, List.map_map]; rfl
    have e3 : (zs.map f).map (·.2) = (zs.map (·.2)).map PySem.W.Datum.toD := by rw [List.map_map, List.map_map]; rfl
    refine ⟨b, zs.map f, rfl, by rw [e1]; exact h1, by rw [e1, e3]; exact dpAll_lines h2, ?_, ?_, by simpa using Nat.le_trans hl (by decide), fun b hb => ?_, fun p hp => ?_⟩
    · rw [e3]
      exact PySem.W.AllAlike.of fun a b => PySem.W.DatumOrd.alike a b
    · rw [e3]
      exact PySem.W.Sortable.tuples fun b => ⟨_, _, rfl⟩
    · obtain ⟨z, _, rfl⟩ := List.mem_map.mp hb
      exact Nat.le_trans (PySem.W.Datum.depth_le z.2) (by decide)
    · have hle : ∀ y z : Addr × Ln, leP y.2 z.2 = PySem.W.dataLe false (fun b : V × PyData => b.2) (f y) (f z) := fun y z => by
        rw [PySem.W.dataLe_eq]
        show (!ltP z.2 y.2) = (!PySem.W.dataLt (PySem.W.Datum.toD z.2) (PySem.W.Datum.toD y.2))
        rw [PySem.W.DatumOrd.lt_eq]
        rfl
      have hm : (zs.map f).mergeSort (PySem.W.dataLe false (·.2)) = (zs.mergeSort fun y z => leP y.2 z.2).map f := (List.map_mergeSort fun y _ z _ => hle y z).symm
      have hs : sortP (zs.map (·.2)) = (zs.mergeSort fun y z => leP y.2 z.2).map (·.2) := by
        unfold sortP
        exact (List.map_mergeSort (f := fun (z : Addr × Ln) => z.2) (r := fun (y z : Addr × Ln) => leP y.2 z.2) (s := leP) (l := zs) fun y _ z _ => rfl).symm
      refine q _ _ (e2.trans (Ex.new hp)) ⟨p, rfl, fresh_back e2 hp, (zs.mergeSort fun y z => leP y.2 z.2).map (·.1), by rw [upd_same, hm, List.map_map, List.map_map]; rfl, ?_⟩
      rw [hs]
      exact paired_of_zip fun z hz' => (hz z (List.mem_mergeSort.mp hz')).mono (Ex.new hp)
end
end AT

/-! ## the text of this law -/
namespace AT
open PySem PySem.Spec PyProof.Rows L2 Evl
def topS (i : Nat) : Stmt := PySem.Challenge.pw_arrowturns_k14_whole_cuts_and_turns.main.body.getD i (.Pass ⟨0, 0, 0, 0⟩)
abbrev s_line_right : Stmt := topS 7
abbrev N_line_right : List Str := ["corners", "line", "one", "other"]
theorem sc_line_right : FnScope N_line_right ["corners", "line"] (defScope s_line_right) := ⟨rfl, rfl, rfl, by decide +kernel, rfl, by decide +kernel, by decide +kernel⟩
abbrev s_crossing : Stmt := topS 8
abbrev N_crossing : List Str := ["line", "other"]
theorem sc_crossing : FnScope N_crossing ["line", "other"] (defScope s_crossing) := ⟨rfl, rfl, rfl, by decide +kernel, rfl, by decide +kernel, by decide +kernel⟩
abbrev s_is_cut : Stmt := topS 9
abbrev N_is_cut : List Str := ["corners", "lines", "k", "j"]
theorem sc_is_cut : FnScope N_is_cut ["corners", "lines"] (defScope s_is_cut) := ⟨rfl, rfl, rfl, by decide +kernel, rfl, by decide +kernel, by decide +kernel⟩
abbrev s_must_cut : Stmt := topS 10
abbrev N_must_cut : List Str := ["corners", "lines"]
theorem sc_must_cut : FnScope N_must_cut ["corners", "lines"] (defScope s_must_cut) := ⟨rfl, rfl, rfl, by decide +kernel, rfl, by decide +kernel, by decide +kernel⟩
abbrev s_is_side : Stmt := topS 11
abbrev N_is_side : List Str := ["corners", "lines", "one", "other"]
theorem sc_is_side : FnScope N_is_side ["corners", "lines", "one", "other"] (defScope s_is_side) := ⟨rfl, rfl, rfl, by decide +kernel, rfl, by decide +kernel, by decide +kernel⟩
abbrev s_triangles : Stmt := topS 12
abbrev N_triangles : List Str := ["corners", "lines", "found", "a", "b", "c"]
theorem sc_triangles : FnScope N_triangles ["corners", "lines"] (defScope s_triangles) := ⟨rfl, rfl, rfl, by decide +kernel, rfl, by decide +kernel, by decide +kernel⟩
abbrev s_form_by : Stmt := topS 13
abbrev N_form_by : List Str := ["corners", "lines", "form", "a", "b", "c", "sides", "k", "one", "other", "i", "j", "line"]
theorem sc_form_by : FnScope N_form_by ["corners", "lines"] (defScope s_form_by) := ⟨rfl, rfl, rfl, by decide +kernel, rfl, by decide +kernel, by decide +kernel⟩
abbrev s_form_of : Stmt := topS 14
abbrev N_form_of : List Str := ["corners", "lines"]
theorem sc_form_of : FnScope N_form_of ["corners", "lines"] (defScope s_form_of) := ⟨rfl, rfl, rfl, by decide +kernel, rfl, by decide +kernel, by decide +kernel⟩
abbrev s_cut_turned : Stmt := topS 15
abbrev N_cut_turned : List Str := ["corners", "lines", "line", "left", "part", "one"]
theorem sc_cut_turned : FnScope N_cut_turned ["corners", "lines", "line"] (defScope s_cut_turned) := ⟨rfl, rfl, rfl, by decide +kernel, rfl, by decide +kernel, by decide +kernel⟩
abbrev s_is_form : Stmt := topS 19
abbrev N_is_form : List Str := ["form", "count", "i", "j", "row"]
theorem sc_is_form : FnScope N_is_form ["form"] (defScope s_is_form) := ⟨rfl, rfl, rfl, by decide +kernel, rfl, by decide +kernel, by decide +kernel⟩
abbrev s_must_form : Stmt := topS 20
abbrev N_must_form : List Str := ["form"]
theorem sc_must_form : FnScope N_must_form ["form"] (defScope s_must_form) := ⟨rfl, rfl, rfl, by decide +kernel, rfl, by decide +kernel, by decide +kernel⟩
abbrev s_through : Stmt := topS 21
abbrev N_through : List Str := ["one", "other"]
theorem sc_through : FnScope N_through ["one", "other"] (defScope s_through) := ⟨rfl, rfl, rfl, by decide +kernel, rfl, by decide +kernel, by decide +kernel⟩
abbrev s_turned_by : Stmt := topS 22
abbrev N_turned_by : List Str := ["form", "box", "found", "i", "row", "j"]
theorem sc_turned_by : FnScope N_turned_by ["form", "box"] (defScope s_turned_by) := ⟨rfl, rfl, rfl, by decide +kernel, rfl, by decide +kernel, by decide +kernel⟩
abbrev s_turned : Stmt := topS 23
abbrev N_turned : List Str := ["form", "box"]
theorem sc_turned : FnScope N_turned ["form", "box"] (defScope s_turned) := ⟨rfl, rfl, rfl, by decide +kernel, rfl, by decide +kernel, by decide +kernel⟩
abbrev s_determinant : Stmt := topS 25
abbrev N_determinant : List Str := ["form", "rows", "sign", "ahead", "k", "at", "first", "i", "scale", "row", "one", "other"]
theorem sc_determinant : FnScope N_determinant ["form"] (defScope s_determinant) := ⟨rfl, rfl, rfl, by decide +kernel, rfl, by decide +kernel, by decide +kernel⟩
abbrev s_step_of : Stmt := topS 26
abbrev N_step_of : List Str := ["row", "found", "number", "other", "rest"]
theorem sc_step_of : FnScope N_step_of ["row"] (defScope s_step_of) := ⟨rfl, rfl, rfl, by decide +kernel, rfl, by decide +kernel, by decide +kernel⟩
abbrev s_kept : Stmt := topS 27
abbrev N_kept : List Str := ["form", "row"]
theorem sc_kept : FnScope N_kept ["form"] (defScope s_kept) := ⟨rfl, rfl, rfl, by decide +kernel, rfl, by decide +kernel, by decide +kernel⟩
abbrev s__law_cell : Stmt := topS 29
abbrev N__law_cell : List Str := ["script", "k", "base"]
theorem sc__law_cell : FnScope N__law_cell ["script", "k"] (defScope s__law_cell) := ⟨rfl, rfl, rfl, by decide +kernel, rfl, by decide +kernel, by decide +kernel⟩
abbrev s__law_copy : Stmt := topS 31
abbrev N__law_copy : List Str := ["form", "numbers"]
theorem sc__law_copy : FnScope N__law_copy ["form"] (defScope s__law_copy) := ⟨rfl, rfl, rfl, by decide +kernel, rfl, by decide +kernel, by decide +kernel⟩
abbrev s__law_like : Stmt := topS 32
abbrev N__law_like : List Str := ["found", "due", "numbers", "other", "one", "two"]
theorem sc__law_like : FnScope N__law_like ["found", "due"] (defScope s__law_like) := ⟨rfl, rfl, rfl, by decide +kernel, rfl, by decide +kernel, by decide +kernel⟩
abbrev s__law_renamed : Stmt := topS 34
abbrev N__law_renamed : List Str := ["form", "names", "count", "found", "i", "j"]
theorem sc__law_renamed : FnScope N__law_renamed ["form", "names"] (defScope s__law_renamed) := ⟨rfl, rfl, rfl, by decide +kernel, rfl, by decide +kernel, by decide +kernel⟩
abbrev s__law_cut : Stmt := topS 39
abbrev N__law_cut : List Str := ["script", "k", "corners", "lines", "todo", "one", "other", "at"]
theorem sc__law_cut : FnScope N__law_cut ["script", "k", "corners"] (defScope s__law_cut) := ⟨rfl, rfl, rfl, by decide +kernel, rfl, by decide +kernel, by decide +kernel⟩
abbrev s_law : Stmt := topS 42
abbrev N_law : List Str := ["script", "corners", "lines", "form", "total", "box", "other", "fresh", "names", "due", "there", "line"]
theorem sc_law : FnScope N_law ["script"] (defScope s_law) := ⟨rfl, rfl, rfl, by decide +kernel, rfl, by decide +kernel, by decide +kernel⟩
/-- what the top has left: the defs, the constants, the classes, the built-in names -/
structure Txt (K : Frag) (mg : Str → Option Value) where
  f_line_right : Addr
  d_line_right : FuncData
  F_line_right : Fun K "line_right" "line_right" s_line_right f_line_right d_line_right
  m_line_right : mg "line_right" = some (.ref f_line_right)
  b_line_right : Binds K d_line_right ["corners", "line"] []
  f_crossing : Addr
  d_crossing : FuncData
  F_crossing : Fun K "crossing" "crossing" s_crossing f_crossing d_crossing
  m_crossing : mg "crossing" = some (.ref f_crossing)
  b_crossing : Binds K d_crossing ["line", "other"] []
  f_is_cut : Addr
  d_is_cut : FuncData
  F_is_cut : Fun K "is_cut" "is_cut" s_is_cut f_is_cut d_is_cut
  m_is_cut : mg "is_cut" = some (.ref f_is_cut)
  b_is_cut : Binds K d_is_cut ["corners", "lines"] []
  f_must_cut : Addr
  d_must_cut : FuncData
  F_must_cut : Fun K "must_cut" "must_cut" s_must_cut f_must_cut d_must_cut
  m_must_cut : mg "must_cut" = some (.ref f_must_cut)
  b_must_cut : Binds K d_must_cut ["corners", "lines"] []
  f_is_side : Addr
  d_is_side : FuncData
  F_is_side : Fun K "is_side" "is_side" s_is_side f_is_side d_is_side
  m_is_side : mg "is_side" = some (.ref f_is_side)
  b_is_side : Binds K d_is_side ["corners", "lines", "one", "other"] []
  f_triangles : Addr
  d_triangles : FuncData
  F_triangles : Fun K "triangles" "triangles" s_triangles f_triangles d_triangles
  m_triangles : mg "triangles" = some (.ref f_triangles)
  b_triangles : Binds K d_triangles ["corners", "lines"] []
  f_form_by : Addr
  d_form_by : FuncData
  F_form_by : Fun K "form_by" "form_by" s_form_by f_form_by d_form_by
  m_form_by : mg "form_by" = some (.ref f_form_by)
  b_form_by : Binds K d_form_by ["corners", "lines"] []
  f_form_of : Addr
  d_form_of : FuncData
  F_form_of : Fun K "form_of" "form_of" s_form_of f_form_of d_form_of
  m_form_of : mg "form_of" = some (.ref f_form_of)
  b_form_of : Binds K d_form_of ["corners", "lines"] []
  f_cut_turned : Addr
  d_cut_turned : FuncData
  F_cut_turned : Fun K "cut_turned" "cut_turned" s_cut_turned f_cut_turned d_cut_turned
  m_cut_turned : mg "cut_turned" = some (.ref f_cut_turned)
  b_cut_turned : Binds K d_cut_turned ["corners", "lines", "line"] []
  f_is_form : Addr
  d_is_form : FuncData
  F_is_form : Fun K "is_form" "is_form" s_is_form f_is_form d_is_form
  m_is_form : mg "is_form" = some (.ref f_is_form)
  b_is_form : Binds K d_is_form ["form"] []
  f_must_form : Addr
  d_must_form : FuncData
  F_must_form : Fun K "must_form" "must_form" s_must_form f_must_form d_must_form
  m_must_form : mg "must_form" = some (.ref f_must_form)
  b_must_form : Binds K d_must_form ["form"] []
  f_through : Addr
  d_through : FuncData
  F_through : Fun K "through" "through" s_through f_through d_through
  m_through : mg "through" = some (.ref f_through)
  b_through : Binds K d_through ["one", "other"] []
  f_turned_by : Addr
  d_turned_by : FuncData
  F_turned_by : Fun K "turned_by" "turned_by" s_turned_by f_turned_by d_turned_by
  m_turned_by : mg "turned_by" = some (.ref f_turned_by)
  b_turned_by : Binds K d_turned_by ["form", "box"] []
  f_turned : Addr
  d_turned : FuncData
  F_turned : Fun K "turned" "turned" s_turned f_turned d_turned
  m_turned : mg "turned" = some (.ref f_turned)
  b_turned : Binds K d_turned ["form", "box"] []
  f_determinant : Addr
  d_determinant : FuncData
  F_determinant : Fun K "determinant" "determinant" s_determinant f_determinant d_determinant
  m_determinant : mg "determinant" = some (.ref f_determinant)
  b_determinant : Binds K d_determinant ["form"] []
  f_step_of : Addr
  d_step_of : FuncData
  F_step_of : Fun K "step_of" "step_of" s_step_of f_step_of d_step_of
  m_step_of : mg "step_of" = some (.ref f_step_of)
  b_step_of : Binds K d_step_of ["row"] []
  f_kept : Addr
  d_kept : FuncData
  F_kept : Fun K "kept" "kept" s_kept f_kept d_kept
  m_kept : mg "kept" = some (.ref f_kept)
  b_kept : Binds K d_kept ["form"] []
  f__law_cell : Addr
  d__law_cell : FuncData
  F__law_cell : Fun K "_law_cell" "_law_cell" s__law_cell f__law_cell d__law_cell
  m__law_cell : mg "_law_cell" = some (.ref f__law_cell)
  b__law_cell : Binds K d__law_cell ["script", "k"] []
  f__law_copy : Addr
  d__law_copy : FuncData
  F__law_copy : Fun K "_law_copy" "_law_copy" s__law_copy f__law_copy d__law_copy
  m__law_copy : mg "_law_copy" = some (.ref f__law_copy)
  b__law_copy : Binds K d__law_copy ["form"] []
  f__law_like : Addr
  d__law_like : FuncData
  F__law_like : Fun K "_law_like" "_law_like" s__law_like f__law_like d__law_like
  m__law_like : mg "_law_like" = some (.ref f__law_like)
  b__law_like : Binds K d__law_like ["found", "due"] []
  f__law_renamed : Addr
  d__law_renamed : FuncData
  F__law_renamed : Fun K "_law_renamed" "_law_renamed" s__law_renamed f__law_renamed d__law_renamed
  m__law_renamed : mg "_law_renamed" = some (.ref f__law_renamed)
  b__law_renamed : Binds K d__law_renamed ["form", "names"] []
  f__law_cut : Addr
  d__law_cut : FuncData
  F__law_cut : Fun K "_law_cut" "_law_cut" s__law_cut f__law_cut d__law_cut
  m__law_cut : mg "_law_cut" = some (.ref f__law_cut)
  b__law_cut : Binds K d__law_cut ["script", "k", "corners"] []
  f_law : Addr
  d_law : FuncData
  F_law : Fun K "law" "law" s_law f_law d_law
  m_law : mg "law" = some (.ref f_law)
  b_law : Binds K d_law ["script"] []
  t_MOST_CORNERS : Tok
  m_MOST_CORNERS : mg "MOST_CORNERS" = some (.int 9 t_MOST_CORNERS)
  t_MOST_BOXES : Tok
  m_MOST_BOXES : mg "MOST_BOXES" = some (.int 6 t_MOST_BOXES)
  t_MOST_ARROWS : Tok
  m_MOST_ARROWS : mg "MOST_ARROWS" = some (.int 99 t_MOST_ARROWS)
  c_TurnError : Addr
  x_TurnError : ExcF K mg "TurnError" c_TurnError
  g_TurnError : mg "TurnError" = some (.ref c_TurnError)
  c_NoForm : Addr
  x_NoForm : ExcF K mg "NoForm" c_NoForm
  g_NoForm : mg "NoForm" = some (.ref c_NoForm)
  c_NoBox : Addr
  x_NoBox : ExcF K mg "NoBox" c_NoBox
  g_NoBox : mg "NoBox" = some (.ref c_NoBox)
  c_NoCut : Addr
  x_NoCut : ExcF K mg "NoCut" c_NoCut
  g_NoCut : mg "NoCut" = some (.ref c_NoCut)
  u_TurnError_TurnError : PySem.W.subIn K (.ref c_TurnError) (.ref c_TurnError) = some true
  u_TurnError_NoForm : PySem.W.subIn K (.ref c_TurnError) (.ref c_NoForm) = some false
  u_TurnError_NoBox : PySem.W.subIn K (.ref c_TurnError) (.ref c_NoBox) = some false
  u_TurnError_NoCut : PySem.W.subIn K (.ref c_TurnError) (.ref c_NoCut) = some false
  u_NoForm_TurnError : PySem.W.subIn K (.ref c_NoForm) (.ref c_TurnError) = some true
  u_NoForm_NoForm : PySem.W.subIn K (.ref c_NoForm) (.ref c_NoForm) = some true
  u_NoForm_NoBox : PySem.W.subIn K (.ref c_NoForm) (.ref c_NoBox) = some false
  u_NoForm_NoCut : PySem.W.subIn K (.ref c_NoForm) (.ref c_NoCut) = some false
  u_NoBox_TurnError : PySem.W.subIn K (.ref c_NoBox) (.ref c_TurnError) = some true
  u_NoBox_NoForm : PySem.W.subIn K (.ref c_NoBox) (.ref c_NoForm) = some false
  u_NoBox_NoBox : PySem.W.subIn K (.ref c_NoBox) (.ref c_NoBox) = some true
  u_NoBox_NoCut : PySem.W.subIn K (.ref c_NoBox) (.ref c_NoCut) = some false
  u_NoCut_TurnError : PySem.W.subIn K (.ref c_NoCut) (.ref c_TurnError) = some true
  u_NoCut_NoForm : PySem.W.subIn K (.ref c_NoCut) (.ref c_NoForm) = some false
  u_NoCut_NoBox : PySem.W.subIn K (.ref c_NoCut) (.ref c_NoBox) = some false
  u_NoCut_NoCut : PySem.W.subIn K (.ref c_NoCut) (.ref c_NoCut) = some true
  b_len : mg "len" = none
  b_range : mg "range" = none
  b_sum : mg "sum" = none
  b_sorted : mg "sorted" = none
  b_max : mg "max" = none
  b_min : mg "min" = none
  b_abs : mg "abs" = none
  b_list : mg "list" = none
  b_zip : mg "zip" = none
  b_isinstance : mg "isinstance" = none
  b_bool : mg "bool" = none
  b_int : mg "int" = none
end AT

namespace AT
open PySem PySem.Spec PyProof.Rows L2 Evl
/-! ### is_form -/
def cl (M : List (List Int)) (i j : Nat) : Int := (M.getD i []).getD j 0
/-- rows that are a form of n boxes with the numbers f -/
def FormOf (n : Nat) (f : Nat → Nat → Int) : Prop := 1 ≤ n ∧ n ≤ 6 ∧ ∀ i j, i < n → j < n → f i j = 0 - f j i ∧ -99 ≤ f i j ∧ f i j ≤ 99
def IsForm (M : List (List Int)) : Prop := ∃ n f, M = Fm n f ∧ FormOf n f
theorem list_eq_range {α : Type} (d : α) (l : List α) : l = (List.range l.length).map fun i => l.getD i d := by
  apply List.ext_getElem
  · simp
  · intro i h1 h2
    simp [List.getD_eq_getElem?_getD, h1]
theorem fm_of {M : List (List Int)} (h : ∀ r, r ∈ M → r.length = M.length) : M = Fm M.length (cl M) := by
  unfold Fm
  refine (list_eq_range [] M).trans (mapr_ext fun i hi => ?_)
  have hm : M.getD i [] ∈ M := by
    rw [List.getD_eq_getElem?_getD, List.getElem?_eq_getElem hi]
    exact List.getElem_mem hi
  have e := list_eq_range 0 (M.getD i [])
  rw [h _ hm] at e
  exact e
theorem isForm_rows {M : List (List Int)} (h : IsForm M) : 1 ≤ M.length ∧ M.length ≤ 6 ∧ (∀ r, r ∈ M → r.length = M.length) := by
  obtain ⟨n, f, rfl, h1, h2, _⟩ := h
  rw [fm_len]
  refine ⟨h1, h2, fun r hr => ?_⟩
  obtain ⟨i, _, rfl⟩ := List.mem_map.mp hr
  simp
theorem isForm_iff {M : List (List Int)} (h1 : 1 ≤ M.length) (h2 : M.length ≤ 6) (h : ∀ r, r ∈ M → r.length = M.length) :
    IsForm M ↔ ∀ i j, i < M.length → j < M.length → cl M i j = 0 - cl M j i ∧ -99 ≤ cl M i j ∧ cl M i j ≤ 99 := by
  constructor
  · rintro ⟨n, f, e, _, _, q⟩ i j hi hj
    have e2 := (fm_of h).symm.trans e
    obtain ⟨e3, e4⟩ := fm_inj e2
    rw [e4 i j hi hj, e4 j i hj hi]
    exact q i j (by omega) (by omega)
  · intro q
    exact ⟨M.length, cl M, fm_of h, h1, h2, q⟩
def sp_is_form (K : Frag) : Sp := fun vs H Q _ => ∃ a M, vs = [.ref a] ∧ LLI K H a M ∧ M.length ≤ 1000 ∧ (∀ r, r ∈ M → r.length ≤ 1000) ∧ ∀ b H', Ex H H' → (b = true ↔ IsForm M) → Q (.bl b) H'
section
variable {P : Program} {w : World} {K : Frag} {mg : Str → Option Value} {base : Heap} {k : Nat}
theorem given_pos {n : Nat} {f : Nat → Bool} {v : Nat → V} : (0 < ((given n f v).length : Int)) ↔ ∃ i, i < n ∧ f i = true := by
  unfold given
  rw [List.length_map]
  constructor
  · intro h
    have h2 : 0 < ((List.range n).filter f).length := by omega
    obtain ⟨x, hx⟩ := List.exists_mem_of_length_pos h2
    obtain ⟨a, b⟩ := List.mem_filter.mp hx
    exact ⟨x, List.mem_range.mp a, b⟩
  · rintro ⟨i, hi, hf⟩
    have : i ∈ (List.range n).filter f := List.mem_filter.mpr ⟨List.mem_range.mpr hi, hf⟩
    have := List.length_pos_of_mem this
    omega
theorem ok_is_form (T : Txt K mg) : FnOk P w K mg base CX0 (k + 1) T.f_is_form T.d_is_form ["form"] (sp_is_form K) := by
  refine T.F_is_form.ok sc_is_form (fun vs H Q E h => ?_) (fun cdv A outer s H vs Q E hr h => ?_)
  · obtain ⟨a, M, rfl, _⟩ := h
    rfl
  · obtain ⟨a, M, rfl, hM, hl, hrl, q⟩ := h
    refine ⟨_, (pss_cons (ps_set (i := 1) sc_is_form.nd rfl (.inr rfl) (pe_callB (lenK K) rfl T.b_len PySem.boot_len (pa_cons (pv 0) pa_nil)))
      (pss_cons (ps_if (PW.pt (pw_or (pt_cmpR op_lt (pv 1) pe_int (nomark _)) (pw_or (pt_cmpR op_gt (pv 1) (pe_glob (v := .int 6) rfl T.m_MOST_BOXES ⟨_, rfl⟩) (nomark _)) (pw_or1 (pt_cmpR op_gt (pe_callB (lenK K) rfl T.b_len PySem.boot_len (pa_cons (pe_lc (own := [("row", 4)]) rfl sc_is_form.nd (pi_listK K (pv 0)) (blkOk_by (own := [("row", 4)]) (N := N_is_form) (sc := defScope s_is_form) (by decide +kernel)) (fun _ _ _ _ _ => (pg_name (i := 4) sc_is_form.nd rfl (.inl rfl))) (fun _ _ _ _ _ => (pts_one (pt_cmpR op_ne (pe_callB (lenK K) rfl T.b_len PySem.boot_len (pa_cons (pv 4) pa_nil)) (pv 1) (nomark _)))) (fun _ _ _ _ _ => (pv 4))) pa_nil)) pe_int (nomark _))))))
        (pss_one (ps_ret pe_bl))
        pss_nil)
      (pss_cons (ps_for PassesOwn.never rfl (pi_range1 rfl T.b_range (pa_cons (pv 1) pa_nil)) (pg_name (i := 2) sc_is_form.nd rfl (.inl rfl))
        (pss_one (ps_for PassesOwn.never rfl (pi_range1 rfl T.b_range (pa_cons (pv 1) pa_nil)) (pg_name (i := 3) sc_is_form.nd rfl (.inl rfl))
        (pss_one (ps_if (PW.pt (pw_or (pt_cmpR op_ne (pe_ix (ixL K) (pe_ix (ixL K) (pv 0) (pv 2) (fun _ _ => rfl)) (pv 3) (fun _ _ => rfl)) (pe_op op_sub pe_int (pe_ix (ixL K) (pe_ix (ixL K) (pv 0) (pv 3) (fun _ _ => rfl)) (pv 2) (fun _ _ => rfl))) (nomark _)) (pw_or1 (pt_cmpR op_gt (pe_callB absK rfl T.b_abs (by decide +kernel) (pa_cons (pe_ix (ixL K) (pe_ix (ixL K) (pv 0) (pv 2) (fun _ _ => rfl)) (pv 3) (fun _ _ => rfl)) pa_nil)) (pe_glob (v := .int 99) rfl T.m_MOST_ARROWS ⟨_, rfl⟩) (nomark _)))))
        (pss_one (ps_ret pe_bl))
        pss_nil)))))
      (pss_one (ps_ret pe_bl))))), ?_⟩
    obtain ⟨as, hA, hP⟩ := id hM
    have hlen := hP.length
    refine q_asg (ev_lenLLI (ev_var rfl) hM) fun H1 e1 => ?_
    -- the first test
    have hcomp : ∃ rows : Nat → Bool, (∀ i r, M[i]? = some r → rows i = decide (r.length ≠ M.length)) := ⟨fun i => decide ((M.getD i []).length ≠ M.length), fun i r h => by show decide ((M.getD i []).length ≠ M.length) = _; rw [List.getD_eq_getElem?_getD, h]; rfl⟩
    obtain ⟨rows, hrows⟩ := hcomp
    refine q_when (b := (decide ((M.length : Int) < 1)) || (decide ((6 : Int) < M.length) || decide (0 < ((given (as.map V.ref).length rows fun i => (as.map V.ref).getD i .non).length : Int)))) ?_ ?_ ?_
    · refine et_or (et_test (ev_op (ev_var rfl) ev_c rv_I0)) fun _ => et_or (et_test (ev_op (ev_var rfl) ev_c rv_I0)) fun _ => et_test (ev_op (ev_lenN ?_) ev_c rv_I0)
      refine el_lcL _ _ (ev_var rfl) (ex_l e1 hA) (by rw [List.length_map]; omega) (fun _ => rfl) (fun i x H2 e2 hx => ?_) (fun i x H2 e2 hx _ => ?_)
      · rw [List.getElem?_map] at hx
        cases hy : as[i]? with
        | none => rw [hy] at hx; cases hx
        | some y =>
          rw [hy] at hx
          cases hx
          obtain ⟨r, h1, h2⟩ := paired_getL hP hy
          rw [hrows i r h1]
          refine et_is (et_test (ev_op (ev_lenLI (ev_var rfl) (h2.mono (e1.trans e2))) (ev_var rfl) (rv_ne rfl))) ?_
          by_cases z : r.length = M.length
          · simp [z]
          · have : ¬ (V.int (r.length : Int) = V.int (M.length : Int)) := fun q => z (by injection q; omega)
            simp [z, this]
      · rw [List.getD_eq_getElem?_getD, hx]
        exact ev_var rfl
    · intro hb H2 e2
      refine s_ret ev_c fun H3 e3 => q false H3 ((e1.trans e2).trans e3) (bfF fun z => ?_)
      obtain ⟨z1, z2, z3⟩ := isForm_rows z
      simp only [Bool.or_eq_true, decide_eq_true_eq, given_pos] at hb
      rcases hb with hb | hb | ⟨i, hi, hb⟩
      · omega
      · omega
      · rw [List.length_map, hlen] at hi
        have := hrows i M[i] (List.getElem?_eq_getElem hi)
        rw [hb, z3 _ (List.getElem_mem hi)] at this
        simp at this
    · intro hb H2 e2
      simp only [Bool.or_eq_false_iff, decide_eq_false_iff_not, given_pos] at hb
      obtain ⟨hb1, hb2, hb3⟩ := hb
      have hn1 : 1 ≤ M.length := by omega
      have hn2 : M.length ≤ 6 := by omega
      have hrow : ∀ r, r ∈ M → r.length = M.length := fun r hr => by
        obtain ⟨i, hi, e⟩ := List.mem_iff_getElem.mp hr
        by_cases z : r.length = M.length
        · exact z
        · refine (hb3 ⟨i, by rw [List.length_map, hlen]; exact hi, ?_⟩).elim
          rw [hrows i r (by rw [List.getElem?_eq_getElem hi, e])]
          exact decide_eq_true z
      have hfm := fm_of hrow
      have hiff := isForm_iff hn1 hn2 hrow
      generalize hn : M.length = n at *
      rw [hfm] at hM
      refine q_forR1 (n := (n : Int)) (ea_cons (ev_var rfl) ea_nil) (by omega) (fun i σ' H' => ∃ x2 x3 x4, σ' = [some (.ref a), some (.int (n : Int)), x2, x3, x4] ∧ Ex H H' ∧ ∀ i' j, i' < i → j < n → cl M i' j = 0 - cl M j i' ∧ -99 ≤ cl M i' j ∧ cl M i' j ≤ 99) (fun H3 e3 => ⟨none, none, none, rfl, (e1.trans e2).trans e3, fun i' j h => absurd h (Nat.not_lt_zero _)⟩) (fun i σ' H' hi hp => ?_) (fun σ' H' hp => ?_)
      · obtain ⟨x2, x3, x4, rfl, eH, hc⟩ := hp
        have hi' : i < n := by omega
        refine s_forR1 (n := (n : Int)) (ea_cons (ev_var rfl) ea_nil) (by omega) (fun j σ' H' => ∃ x3 x4, σ' = [some (.ref a), some (.int (n : Int)), some (.int (i : Int)), x3, x4] ∧ Ex H H' ∧ ∀ j', j' < j → cl M i j' = 0 - cl M j' i ∧ -99 ≤ cl M i j' ∧ cl M i j' ≤ 99) (fun H3 e3 => ⟨_, _, rfl, eH.trans e3, fun j' h => absurd h (Nat.not_lt_zero _)⟩) (fun j σ' H' hj hp => ?_) (fun σ' H' hp => ?_)
        · obtain ⟨y3, y4, rfl, eH', hc'⟩ := hp
          have hj' : j < n := by omega
          have hMj := hM.mono eH'
          refine s_when (et_or (et_test (ev_op (ev_fm (ev_var rfl) (ev_var rfl) (ev_var rfl) hMj hi' hj') (ev_op ev_c (ev_fm (ev_var rfl) (ev_var rfl) (ev_var rfl) hMj hj' hi') rv_I0) (rv_ne rfl))) fun _ => et_test (ev_op (ev_abs (ev_fm (ev_var rfl) (ev_var rfl) (ev_var rfl) hMj hi' hj')) ev_c rv_I0)) (fun hb H3 e3 => ?_) (fun hb H3 e3 => ?_)
          · refine s_ret ev_c fun H4 e4 => q false H4 ((eH'.trans e3).trans e4) (bfF fun z => ?_)
            have := (hiff.mp z) i j hi' hj'
            simp only [Bool.or_eq_true, decide_eq_true_eq, Bool.not_eq_true', decide_eq_false_iff_not] at hb
            rcases hb with hb | hb
            · exact absurd (by rw [this.1]) hb
            · split at hb <;> omega
          · refine ⟨_, _, rfl, eH'.trans e3, fun j' h => ?_⟩
            by_cases e : j' = j
            · subst e
              simp only [Bool.or_eq_false_iff, decide_eq_false_iff_not, Bool.not_eq_false', decide_eq_true_eq] at hb
              obtain ⟨h1, h2⟩ := hb
              have h1' : cl M i j' = 0 - cl M j' i := by injection h1
              refine ⟨h1', ?_⟩
              split at h2 <;> omega
            · exact hc' j' (by omega)
        · obtain ⟨y3, y4, rfl, eH', hc'⟩ := hp
          refine ⟨_, _, _, rfl, eH', fun i' j h hj => ?_⟩
          by_cases e : i' = i
          · subst e
            exact hc' j (by omega)
          · exact hc i' j (by omega) hj
      · obtain ⟨x2, x3, x4, rfl, eH, hc⟩ := hp
        refine s_ret ev_c fun H3 e3 => q true H3 (eH.trans e3) (bfT (hiff.mpr fun i j hi hj => hc i j (by omega) hj))
end
end AT

namespace AT
open PySem PySem.Spec PyProof.Rows L2 Evl
/-! ### must_form, through, turned_by, turned -/
def thr (a b : Int) : Int := if 0 < a ∧ 0 < b then a * b else if a < 0 ∧ b < 0 then 0 - a * b else 0
def turnF (f : Nat → Nat → Int) (k : Nat) : Nat → Nat → Int := fun i j => if i = k ∨ j = k then 0 - f i j else f i j + thr (f i k) (f k j)
/-- numbers of less than B bits -/
def Bits (B n : Nat) (f : Nat → Nat → Int) : Prop := 0 < B ∧ B + B ≤ 900000 ∧ ∀ i j, i < n → j < n → (f i j).natAbs < 2 ^ B
theorem FormOf.bits {n : Nat} {f : Nat → Nat → Int} (h : FormOf n f) : Bits 7 n f := ⟨by decide, by decide, fun i j hi hj => by
  have := (h.2.2 i j hi hj).2
  show _ < 128
  omega⟩
def SmallM (M : List (List Int)) : Prop := M.length ≤ 1000 ∧ ∀ r, r ∈ M → r.length ≤ 1000
theorem small_fm {n : Nat} {f : Nat → Nat → Int} (h : n ≤ 1000) : SmallM (Fm n f) := ⟨by rw [fm_len]; exact h, fun r hr => by
  obtain ⟨i, _, rfl⟩ := List.mem_map.mp hr
  simpa using h⟩
def sp_must_form (K : Frag) (C : Addr) : Sp := fun vs H Q E => ∃ a M, vs = [.ref a] ∧ LLI K H a M ∧ SmallM M ∧ ∀ H', Ex H H' → (IsForm M → Q .non H') ∧ (¬ IsForm M → E (.ref C) none H')
def sp_through : Sp := fun vs H Q _ => ∃ a b, vs = [.int a, .int b] ∧ CMulW a b ∧ ∀ H', Ex H H' → Q (.int (thr a b)) H'
def sp_turned_by (K : Frag) : Sp := fun vs H Q _ => ∃ a n f k B, vs = [.ref a, .int ((k : Nat) : Int)] ∧ LLI K H a (Fm n f) ∧ n ≤ 100 ∧ k < n ∧ Bits B n f ∧ ∀ H' p, Ex H H' → OLLI H H' p (Fm n (turnF f k)) → Q (.ref p) H'
def sp_turned (K : Frag) (CF CB : Addr) : Sp := fun vs H Q E => ∃ a M box, vs = [.ref a, .int box] ∧ LLI K H a M ∧ SmallM M ∧ (¬ IsForm M → ∀ H', Ex H H' → E (.ref CF) none H') ∧
  (∀ n f, M = Fm n f → FormOf n f → (∀ k : Nat, box = k → k < n → ∀ H' p, Ex H H' → OLLI H H' p (Fm n (turnF f k)) → Q (.ref p) H') ∧ ((box < 0 ∨ (n : Int) ≤ box) → ∀ H', Ex H H' → E (.ref CB) none H'))
section
variable {P : Program} {w : World} {K : Frag} {mg : Str → Option Value} {base : Heap} {k : Nat}
theorem ok_must_form (T : Txt K mg) (G_is_form : FnOk P w K mg base CX0 k T.f_is_form T.d_is_form ["form"] (sp_is_form K)) : FnOk P w K mg base (L2.CX P w) (k + 1) T.f_must_form T.d_must_form ["form"] (sp_must_form K T.c_NoForm) := by
  refine T.F_must_form.okX sc_must_form (fun vs H Q E h => ?_) (fun cdv A outer s H vs Q E hr h => ?_)
  · obtain ⟨a, M, rfl, _⟩ := h
    rfl
  · obtain ⟨a, M, rfl, hM, hs, q⟩ := h
    refine ⟨_, (pss_one (ps_if (pt_not (pt_val (pe_call G_is_form hr rfl T.m_is_form T.F_is_form.kp T.b_is_form .nil pass0 (pa_cons (pv 0) pa_nil))))
        (pss_one (ps_raise rfl (takes_of rfl rfl rfl rfl) (pmk_own PySem.F.excBase_ValueError T.x_NoForm.xn T.x_NoForm.g T.x_NoForm.kp (raises_own T.x_NoForm.bs T.x_NoForm.ty) rfl)))
        pss_nil)), ?_⟩
    refine ⟨.ref a, rfl, a, M, rfl, hM, hs.1, hs.2, fun b H1 e1 hb => ?_⟩
    refine ⟨b, rfl, ?_⟩
    cases b with
    | true => exact (q H1 e1).1 (hb.mp rfl)
    | false => exact (q H1 e1).2 fun z => Bool.false_ne_true (hb.mpr z)
theorem ok_through (T : Txt K mg) : FnOk P w K mg base CX0 (k + 1) T.f_through T.d_through ["one", "other"] sp_through := by
  refine T.F_through.ok sc_through (fun vs H Q E h => ?_) (fun cdv A outer s H vs Q E hr h => ?_)
  · obtain ⟨a, b, rfl, _⟩ := h
    rfl
  · obtain ⟨a, b, rfl, hm, q⟩ := h
    refine ⟨_, (pss_cons (ps_if (PW.pt (pw_and (pt_cmpR op_gt (pv 0) pe_int (nomark _)) (pw_and1 (pt_cmpR op_gt (pv 1) pe_int (nomark _)))))
        (pss_one (ps_ret (pe_op op_mulW (pv 0) (pv 1))))
        pss_nil)
      (pss_cons (ps_if (PW.pt (pw_and (pt_cmpR op_lt (pv 0) pe_int (nomark _)) (pw_and1 (pt_cmpR op_lt (pv 1) pe_int (nomark _)))))
        (pss_one (ps_ret (pe_op op_sub pe_int (pe_op op_mulW (pv 0) (pv 1)))))
        pss_nil)
      (pss_one (ps_ret pe_int)))), ?_⟩
    refine q_when (et_and (et_test (ev_op (ev_var rfl) ev_c rv_I0)) fun _ => et_test (ev_op (ev_var rfl) ev_c rv_I0)) (fun hb H1 e1 => s_ret (ev_op (ev_var rfl) (ev_var rfl) (rv_I hm)) fun H2 e2 => ?_) (fun hb H1 e1 => ?_)
    · simp only [Bool.and_eq_true, decide_eq_true_eq] at hb
      have := q H2 (e1.trans e2)
      unfold thr at this
      rw [if_pos hb] at this
      exact this
    · simp only [Bool.and_eq_false_iff, decide_eq_false_iff_not] at hb
      refine q_when (et_and (et_test (ev_op (ev_var rfl) ev_c rv_I0)) fun _ => et_test (ev_op (ev_var rfl) ev_c rv_I0)) (fun hc H2 e2 => s_ret (ev_op ev_c (ev_op (ev_var rfl) (ev_var rfl) (rv_I hm)) rv_I0) fun H3 e3 => ?_) (fun hc H2 e2 => s_ret ev_c fun H3 e3 => ?_)
      · simp only [Bool.and_eq_true, decide_eq_true_eq] at hc
        have := q H3 ((e1.trans e2).trans e3)
        unfold thr at this
        rw [if_neg (by omega), if_pos hc] at this
        exact this
      · simp only [Bool.and_eq_false_iff, decide_eq_false_iff_not] at hc
        have := q H3 ((e1.trans e2).trans e3)
        unfold thr at this
        rw [if_neg (by omega), if_neg (by omega)] at this
        exact this
theorem ok_turned_by (T : Txt K mg) (G_through : FnOk P w K mg base CX0 k T.f_through T.d_through ["one", "other"] sp_through) : FnOk P w K mg base CX0 (k + 1) T.f_turned_by T.d_turned_by ["form", "box"] (sp_turned_by K) := by
  refine T.F_turned_by.ok sc_turned_by (fun vs H Q E h => ?_) (fun cdv A outer s H vs Q E hr h => ?_)
  · obtain ⟨a, n, f, k, B, rfl, _⟩ := h
    rfl
  · obtain ⟨a, n, f, k, B, rfl, hM, hn, hk, hB, q⟩ := h
    refine ⟨_, (pss_cons (ps_set (i := 2) sc_turned_by.nd rfl (.inl rfl) (pe_lst pa_nil))
      (pss_cons (ps_for PassesOwn.never rfl (pi_range1 rfl T.b_range (pa_cons (pe_callB (lenK K) rfl T.b_len PySem.boot_len (pa_cons (pv 0) pa_nil)) pa_nil)) (pg_name (i := 3) sc_turned_by.nd rfl (.inl rfl))
        (pss_cons (ps_set (i := 4) sc_turned_by.nd rfl (.inl rfl) (pe_lst pa_nil))
      (pss_cons (ps_for PassesOwn.never rfl (pi_range1 rfl T.b_range (pa_cons (pe_callB (lenK K) rfl T.b_len PySem.boot_len (pa_cons (pv 0) pa_nil)) pa_nil)) (pg_name (i := 5) sc_turned_by.nd rfl (.inl rfl))
        (pss_one (ps_if (PW.pt (pw_or (pt_cmpR op_eq (pv 3) (pv 1) (nomark _)) (pw_or1 (pt_cmpR op_eq (pv 5) (pv 1) (nomark _)))))
        (pss_one (ps_expr (bmK K PySem.F.plainAttrs_list PySem.F.slot_list_append PySem.F.type_list_append mt_append (pv 4) (pa_cons (pe_op op_sub pe_int (pe_ix (ixL K) (pe_ix (ixL K) (pv 0) (pv 3) (fun _ _ => rfl)) (pv 5) (fun _ _ => rfl))) pa_nil))))
        (pss_one (ps_expr (bmK K PySem.F.plainAttrs_list PySem.F.slot_list_append PySem.F.type_list_append mt_append (pv 4) (pa_cons (pe_op op_add (pe_ix (ixL K) (pe_ix (ixL K) (pv 0) (pv 3) (fun _ _ => rfl)) (pv 5) (fun _ _ => rfl)) (pe_call G_through hr rfl T.m_through T.F_through.kp T.b_through .nil pass0 (pa_cons (pe_ix (ixL K) (pe_ix (ixL K) (pv 0) (pv 3) (fun _ _ => rfl)) (pv 1) (fun _ _ => rfl)) (pa_cons (pe_ix (ixL K) (pe_ix (ixL K) (pv 0) (pv 1) (fun _ _ => rfl)) (pv 5) (fun _ _ => rfl)) pa_nil)))) pa_nil)))))))
      (pss_one (ps_expr (bmK K PySem.F.plainAttrs_list PySem.F.slot_list_append PySem.F.type_list_append mt_append (pv 2) (pa_cons (pv 4) pa_nil)))))))
      (pss_one (ps_ret (pv 2))))), ?_⟩
    have hl : ∀ {σ : St} {H1 : Hp}, σ[0]? = some (some (V.ref a)) → Ex H H1 → EvA (tCons (tCB (rLenS K) (tCons (tVar 0) tNil)) tNil) σ H1 [.int (n : Int)] := fun e e1 => by
      have := ea_cons (ev_lenLLI (K := K) (ev_var e) (hM.mono e1)) ea_nil
      rw [fm_len] at this
      exact this
    refine q_asgL (xs := []) (el_lst ea_nil (by simp)) fun p H1 hp e1 hp1 => ?_
    refine q_forR1 (hl rfl e1) (by omega) (fun i σ' H' => ∃ x3 x4 x5, σ' = [some (.ref a), some (.int (k : Int)), some (.ref p), x3, x4, x5] ∧ Ex H H' ∧ OLLI H H' p ((List.range i).map fun i => (List.range n).map (turnF f k i)))
      (fun H2 e2 => ⟨_, _, _, rfl, e1.trans e2, .nil hp (e2 _ _ hp1)⟩) (fun i σ' H' hi hP => ?_) (fun σ' H' hP => ?_)
    · obtain ⟨x3, x4, x5, rfl, eH, hO⟩ := hP
      have hi' : i < n := by omega
      refine q_asgL (xs := []) (el_lst ea_nil (by simp)) fun r H2 hr e2 hr2 => ?_
      refine q_forR1 (hl rfl (eH.trans e2)) (by omega) (fun j σ' H'' => ∃ x5, σ' = [some (.ref a), some (.int (k : Int)), some (.ref p), some (.int (i : Int)), some (.ref r), x5] ∧ Ex H' H'' ∧ H'' r = some (.lst (((List.range j).map (turnF f k i)).map V.int)))
        (fun H3 e3 => ⟨_, rfl, e2.trans e3, e3 _ _ hr2⟩) (fun j σ' H'' hj hP => ?_) (fun σ' H'' hP => ?_)
      · obtain ⟨x5, rfl, eH', hrow⟩ := hP
        have hj' : j < n := by omega
        have hMj := hM.mono (eH.trans eH')
        have hrl : (((List.range j).map (turnF f k i)).map V.int).length < 100000 := by simp; omega
        have fin : ∀ {H1 : Hp}, Ex H'' H1 → (∃ x5, [some (V.ref a), some (.int (k : Int)), some (.ref p), some (.int (i : Int)), some (.ref r), some (.int (j : Int))] = [some (V.ref a), some (.int (k : Int)), some (.ref p), some (.int (i : Int)), some (.ref r), x5] ∧
            Ex H' (upd H1 r (.lst (((List.range j).map (turnF f k i)).map V.int ++ [.int (turnF f k i j)]))) ∧ (upd H1 r (.lst (((List.range j).map (turnF f k i)).map V.int ++ [.int (turnF f k i j)]))) r = some (.lst (((List.range (j + 1)).map (turnF f k i)).map V.int))) := fun e =>
          ⟨_, rfl, Ex.mut (eH'.trans e) hr, by rw [upd_same, List.range_succ, List.map_append, List.map_append]; rfl⟩
        refine s_if (et_or (et_test (ev_op (ev_var rfl) (ev_var rfl) (rv_eq rfl))) fun _ => et_test (ev_op (ev_var rfl) (ev_var rfl) (rv_eq rfl))) (fun hb H3 e3 => ?_) (fun hb H3 e3 => ?_)
        · have hM3 := hMj.mono e3
          refine s_app (e3 _ _ hrow) (ev_var rfl) (ev_op ev_c (ev_fm (ev_var rfl) (ev_var rfl) (ev_var rfl) hM3 hi' hj') rv_I0) hrl fun H4 e4 => ?_
          have e : turnF f k i j = 0 - f i j := by
            unfold turnF
            rw [if_pos]
            simp only [Bool.or_eq_true, decide_eq_true_eq] at hb
            rcases hb with hb | hb
            · left; injection hb; omega
            · right; injection hb; omega
          have := fin (e3.trans e4)
          rw [e] at this
          exact this
        · have hM3 := hMj.mono e3
          have h1 : ¬ (i = k ∨ j = k) := by
            simp only [Bool.or_eq_false_iff, decide_eq_false_iff_not] at hb
            rintro (z | z)
            · exact hb.1 (by rw [z])
            · exact hb.2 (by rw [z])
          have e : turnF f k i j = f i j + thr (f i k) (f k j) := by
            unfold turnF
            rw [if_neg h1]
          refine s_app (e3 _ _ hrow) (ev_var rfl) (ev_op (ev_fm (ev_var rfl) (ev_var rfl) (ev_var rfl) hM3 hi' hj') (ev_call (z := .int (thr (f i k) (f k j))) (ea_cons (ev_fm (ev_var rfl) (ev_var rfl) (ev_var rfl) hM3 hi' hk) (ea_cons (ev_fm (ev_var rfl) (ev_var rfl) (ev_var rfl) hM3 hk hj') ea_nil)) ?_) rv_I0) hrl fun H4 e4 => ?_
          · intro H4 e4 Q hQ E
            exact ⟨_, _, rfl, wide_mul (hB.2.2 i k hi' hk) (hB.2.2 k j hk hj') hB.1 hB.1 (by have := hB.2.1; omega), hQ⟩
          · have := fin (e3.trans e4)
            rw [e] at this
            exact this
      · obtain ⟨x5, rfl, eH', hrow⟩ := hP
        obtain ⟨vs, h1, h2, h3, h4⟩ := hO.push eH eH' hr hrow
        refine s_app h1 (ev_var rfl) (ev_var rfl) (by rw [h2]; simp; omega) fun H4 e4 => ?_
        obtain ⟨vs', h1', h2', h3', h4'⟩ := hO.push eH (eH'.trans e4) hr (e4 _ _ hrow)
        have : vs' = vs := by
          have z := h1'.symm.trans (e4 _ _ h1)
          injection z with z
          injection z
        subst this
        refine ⟨_, _, _, rfl, h4', ?_⟩
        rw [List.range_succ, List.map_append]
        exact h3'
    · obtain ⟨x3, x4, x5, rfl, eH, hO⟩ := hP
      exact s_ret (ev_var rfl) fun H2 e2 => q H2 p (eH.trans e2) (hO.mono e2)
theorem ok_turned (T : Txt K mg) (G_must_form : FnOk P w K mg base (L2.CX P w) k T.f_must_form T.d_must_form ["form"] (sp_must_form K T.c_NoForm)) (G_turned_by : FnOk P w K mg base CX0 k T.f_turned_by T.d_turned_by ["form", "box"] (sp_turned_by K)) :
    FnOk P w K mg base (L2.CX P w) (k + 1) T.f_turned T.d_turned ["form", "box"] (sp_turned K T.c_NoForm T.c_NoBox) := by
  refine T.F_turned.okX sc_turned (fun vs H Q E h => ?_) (fun cdv A outer s H vs Q E hr h => ?_)
  · obtain ⟨a, M, box, rfl, _⟩ := h
    rfl
  · obtain ⟨a, M, box, rfl, hM, hs, q1, q2⟩ := h
    refine ⟨_, (pss_cons (ps_expr (pe_call G_must_form hr rfl T.m_must_form T.F_must_form.kp T.b_must_form .nil (passes_call (takes_of rfl rfl rfl rfl) (fun _ _ _ _ h => h)) (pa_cons (pv 0) pa_nil)))
      (pss_cons (ps_if (PW.pt (pw_or (pt_cmpR op_lt (pv 1) pe_int (nomark _)) (pw_or1 (pt_cmpR op_ge (pv 1) (pe_callB (lenK K) rfl T.b_len PySem.boot_len (pa_cons (pv 0) pa_nil)) (nomark _)))))
        (pss_one (ps_raise rfl (takes_of rfl rfl rfl rfl) (pmk_own PySem.F.excBase_ValueError T.x_NoBox.xn T.x_NoBox.g T.x_NoBox.kp (raises_own T.x_NoBox.bs T.x_NoBox.ty) rfl)))
        pss_nil)
      (pss_one (ps_ret (pe_call G_turned_by hr rfl T.m_turned_by T.F_turned_by.kp T.b_turned_by .nil pass0 (pa_cons (pv 0) (pa_cons (pv 1) pa_nil))))))), ?_⟩
    refine ⟨.ref a, rfl, a, M, rfl, hM, hs, fun H1 e1 => ⟨fun hF => ?_, fun hF => q1 hF H1 e1⟩⟩
    obtain ⟨n, f, rfl, hf⟩ := hF
    obtain ⟨q3, q4⟩ := q2 n f rfl hf
    have hn := hf.2.1
    dsimp only
    refine q_when (et_or (et_test (ev_op (ev_var rfl) ev_c rv_I0)) fun _ => et_test (ev_op (ev_var rfl) (ev_lenFm (ev_var rfl) (hM.mono e1)) rv_I0)) (fun hb H2 e2 => ?_) (fun hb H2 e2 => ?_)
    · simp only [Bool.or_eq_true, decide_eq_true_eq] at hb
      exact q4 (by omega) H2 (e1.trans e2)
    · simp only [Bool.or_eq_false_iff, decide_eq_false_iff_not] at hb
      obtain ⟨k, rfl⟩ : ∃ k : Nat, box = k := ⟨box.toNat, by omega⟩
      refine ⟨.ref a, rfl, .int (k : Int), rfl, a, n, f, k, 7, rfl, hM.mono (e1.trans e2), by omega, by omega, hf.bits, fun H3 p e3 hO => ?_⟩
      exact q3 k rfl (by omega) H3 p ((e1.trans e2).trans e3) (hO.back (e1.trans e2))
end
end AT

namespace AT
open PySem PySem.Spec PyProof.Rows L2 Evl
/-! ### the law's own readers and makers -/
def cellV (ns : List Int) (k : Nat) : Int := if k < ns.length then ns.getD k 0 else ((ns.getD 0 0) % 65521 * 48271 + k * 30103) % 65521
def sp__law_cell (K : Frag) : Sp := fun vs H Q _ => ∃ (a : Addr) (ns : List Int) (k : Nat), vs = [.ref a, .int (k : Int)] ∧ LI K H a ns ∧ k ≤ 100000 ∧ ∀ H', Ex H H' → Q (.int (cellV ns k)) H'
def sp__law_form (K : Frag) : Sp := fun vs H Q _ => ∃ (a : Addr) (ns : List Int) (k most : Nat), vs = [.ref a, .int (k : Int), .int (most : Int)] ∧ LI K H a ns ∧ k ≤ 1000 ∧ 1 ≤ most ∧ most ≤ 6 ∧ ∀ n f H' p, Ex H H' → FormOf n f → n ≤ most → OLLI H H' p (Fm n f) → Q (.ref p) H'
def sp__law_copy (K : Frag) : Sp := fun vs H Q _ => ∃ a M, vs = [.ref a] ∧ LLI K H a M ∧ M.length ≤ 1000 ∧ ∀ H' p, Ex H H' → OLLI H H' p M → Q (.ref p) H'
def sp__law_like (K : Frag) : Sp := fun vs H Q _ => ∃ a b M N, vs = [.ref a, .ref b] ∧ TLL H a M ∧ LLI K H b N ∧ SmallM M ∧ ∀ H', Ex H H' → Q (.bl (decide (M = N))) H'
section
variable {P : Program} {w : World} {K : Frag} {mg : Str → Option Value} {base : Heap} {k : Nat}
theorem ok__law_cell (T : Txt K mg) : FnOk P w K mg base CX0 (k + 1) T.f__law_cell T.d__law_cell ["script", "k"] (sp__law_cell K) := by
  refine T.F__law_cell.ok sc__law_cell (fun vs H Q E h => ?_) (fun cdv A outer s H vs Q E hr h => ?_)
  · obtain ⟨a, ns, k, rfl, _⟩ := h
    rfl
  · obtain ⟨a, ns, k, rfl, hL, hk, q⟩ := h
    refine ⟨_, (pss_cons (ps_if (pt_cmpR op_lt (pv 1) (pe_callB (lenK K) rfl T.b_len PySem.boot_len (pa_cons (pv 0) pa_nil)) (nomark _))
        (pss_one (ps_ret (pe_ix (ixL K) (pv 0) (pv 1) (fun _ _ => rfl))))
        pss_nil)
      (pss_cons (ps_set (i := 2) sc__law_cell.nd rfl (.inl rfl) pe_int)
      (pss_cons (ps_if (pt_cmpR op_gt (pe_callB (lenK K) rfl T.b_len PySem.boot_len (pa_cons (pv 0) pa_nil)) pe_int (nomark _))
        (pss_one (ps_set (i := 2) sc__law_cell.nd rfl (.inl rfl) (pe_ix (ixL K) (pv 0) pe_int (fun _ _ => rfl))))
        pss_nil)
      (pss_one (ps_ret (pe_op op_modN (pe_op op_add (pe_op op_mul (pe_op op_modN (pv 2) pe_int) pe_int) (pe_op op_mul (pv 1) pe_int)) pe_int)))))), ?_⟩
    unfold cellV at q
    refine q_when (et_test (ev_op (ev_var rfl) (ev_lenLI (ev_var rfl) hL) rv_I0)) (fun hb H1 e1 => ?_) (fun hb H1 e1 => ?_)
    · have hk : k < ns.length := by have := of_decide_eq_true hb; omega
      refine s_ret (ev_item (v := ns.getD k 0) (ev_var rfl) (ev_var rfl) (hL.mono e1) (by rw [List.getD_eq_getElem?_getD, List.getElem?_eq_getElem hk]; rfl)) fun H2 e2 => ?_
      have := q H2 (e1.trans e2)
      rw [if_pos hk] at this
      exact this
    · have hk : ¬ k < ns.length := fun z => (of_decide_eq_false hb) (by omega)
      rw [if_neg hk] at q
      have fin : ∀ (b : Int) H1, b = ns.getD 0 0 → Ex H H1 → tRet (tOp (rI (fun _ j => j ≠ 0) fun i j => .int (i.fmod j)) (tOp (rI0 fun i j => .int (i + j)) (tOp (rI CMul fun i j => .int (i * j)) (tOp (rI (fun _ j => j ≠ 0) fun i j => .int (i.fmod j)) (tVar 2) (tC (.int 65521))) (tC (.int 48271))) (tOp (rI CMul fun i j => .int (i * j)) (tVar 1) (tC (.int 30103)))) (tC (.int 65521)))
          { nx := fun _ H' => Q .non H', rt := Q } [some (.ref a), some (.int (k : Int)), some (.int b)] H1 := fun b H1 hb e1 =>
        s_ret (ev_mod (ev_op (ev_op (ev_mod (ev_var rfl) ev_c (by decide)) ev_c (rv_I (.inr ⟨by decide, by decide⟩))) (ev_op (ev_var rfl) ev_c (rv_I (.inr ⟨by decide, by decide⟩))) rv_I0) ev_c (by decide)) fun H2 e2 => by
          rw [hb]
          exact q H2 (e1.trans e2)
      refine q_asg ev_c fun H2 e2 => q_when (et_test (ev_op (ev_lenLI (ev_var rfl) (hL.mono (e1.trans e2))) ev_c rv_I0)) (fun hb H3 e3 => ?_) (fun hb H3 e3 => ?_)
      · have h0 : 0 < ns.length := by have := of_decide_eq_true hb; omega
        exact s_asg (ev_item (i := 0) (v := ns.getD 0 0) (ev_var rfl) ev_c (hL.mono ((e1.trans e2).trans e3)) (by rw [List.getD_eq_getElem?_getD, List.getElem?_eq_getElem h0]; rfl)) fun H4 e4 => fin _ H4 rfl (((e1.trans e2).trans e3).trans e4)
      · have h0 : ns.length = 0 := by have := of_decide_eq_false hb; omega
        exact fin 0 H3 (by rw [List.getD_eq_getElem?_getD, List.getElem?_eq_none (by omega)]; rfl) ((e1.trans e2).trans e3)
/-- a call of it -/
theorem ev_cv {H : Hp} {σ : St} {a : Addr} {ns : List Int} {E : XK} {ta : TA} {j : Nat} (hL : LI K H a ns) (h : EvA ta σ H [.ref a, .int (j : Int)]) (hj : j ≤ 100000) : Ev (tCall (sp__law_cell K) [] E ta) σ H (.int (cellV ns j)) :=
  ev_call h fun H1 e1 Q q E => ⟨a, ns, j, rfl, hL.mono e1, hj, q⟩
theorem ok__law_copy (T : Txt K mg) : FnOk P w K mg base CX0 (k + 1) T.f__law_copy T.d__law_copy ["form"] (sp__law_copy K) := by
  refine T.F__law_copy.ok sc__law_copy (fun vs H Q E h => ?_) (fun cdv A outer s H vs Q E hr h => ?_)
  · obtain ⟨a, M, rfl, _⟩ := h
    rfl
  · obtain ⟨a, M, rfl, hM, hl, q⟩ := h
    refine ⟨_, (pss_one (ps_ret (pe_lc (own := [("numbers", 1)]) rfl sc__law_copy.nd (pi_listK K (pv 0)) (blkOk_by (own := [("numbers", 1)]) (N := N__law_copy) (sc := defScope s__law_copy) (by decide +kernel)) (fun _ _ _ _ _ => (pg_name (i := 1) sc__law_copy.nd rfl (.inl rfl))) (fun _ _ _ _ _ => pts_nil) (fun _ _ _ _ _ => (pe_callTy (listK K) rfl T.b_list (by decide +kernel) (pa_cons (pv 1) pa_nil)))))), ?_⟩
    obtain ⟨as, hA, hP⟩ := id hM
    have hlen := hP.length
    refine sr_ret (em_lcL (fun i => M.getD i []) (ev_var rfl) hA (by rw [List.length_map]; omega) (fun _ => rfl) (fun i x H1 e1 hx => er_of_evl ?_)) fun v H1 e1 ⟨p, hv, hO⟩ => ?_
    · rw [List.getElem?_map] at hx
      cases hy : as[i]? with
      | none => rw [hy] at hx; cases hx
      | some y =>
        rw [hy] at hx
        cases hx
        obtain ⟨r, h1, h2⟩ := paired_getL hP hy
        rw [List.getD_eq_getElem?_getD, h1]
        exact el_list (ev_var rfl) (h2.mono e1)
    · subst hv
      rw [List.length_map, hlen, ← list_eq_range] at hO
      exact q H1 p e1 hO
theorem ok__law_like (T : Txt K mg) : FnOk P w K mg base CX0 (k + 1) T.f__law_like T.d__law_like ["found", "due"] (sp__law_like K) := by
  refine T.F__law_like.ok sc__law_like (fun vs H Q E h => ?_) (fun cdv A outer s H vs Q E hr h => ?_)
  · obtain ⟨a, b, M, N, rfl, _⟩ := h
    rfl
  · obtain ⟨a, b, M, N, rfl, hM, hN, hs, q⟩ := h
    refine ⟨_, (pss_cons (ps_if (PW.pt (pw_or (pt_not (pt_val (pe_callB (isiK K) rfl T.b_isinstance (by decide +kernel) (pa_cons (pv 0) (pa_cons (pe_bltn (v := .ty "list") rfl T.b_list (by decide +kernel) rfl) pa_nil))))) (pw_or1 (pt_cmpR op_ne (pe_callB (lenK K) rfl T.b_len PySem.boot_len (pa_cons (pv 0) pa_nil)) (pe_callB (lenK K) rfl T.b_len PySem.boot_len (pa_cons (pv 1) pa_nil)) (nomark _)))))
        (pss_one (ps_ret pe_bl))
        pss_nil)
      (pss_cons (ps_for PassesOwn.never rfl (pi_zipK K rfl T.b_zip (pa_cons (pv 0) (pa_cons (pv 1) pa_nil))) (pg_tupK K (n := 2) rfl (pgs_cons (pg_name (i := 2) sc__law_like.nd rfl (.inl rfl)) (pgs_cons (pg_name (i := 3) sc__law_like.nd rfl (.inl rfl)) pgs_nil)))
        (pss_cons (ps_if (PW.pt (pw_or (pt_not (pt_val (pe_callB (isiK K) rfl T.b_isinstance (by decide +kernel) (pa_cons (pv 2) (pa_cons (pe_bltn (v := .ty "list") rfl T.b_list (by decide +kernel) rfl) pa_nil))))) (pw_or1 (pt_cmpR op_ne (pe_callB (lenK K) rfl T.b_len PySem.boot_len (pa_cons (pv 2) pa_nil)) (pe_callB (lenK K) rfl T.b_len PySem.boot_len (pa_cons (pv 3) pa_nil)) (nomark _)))))
        (pss_one (ps_ret pe_bl))
        pss_nil)
      (pss_one (ps_for PassesOwn.never rfl (pi_zipK K rfl T.b_zip (pa_cons (pv 2) (pa_cons (pv 3) pa_nil))) (pg_tupK K (n := 2) rfl (pgs_cons (pg_name (i := 4) sc__law_like.nd rfl (.inl rfl)) (pgs_cons (pg_name (i := 5) sc__law_like.nd rfl (.inl rfl)) pgs_nil)))
        (pss_one (ps_if (PW.pt (pw_or (pt_not (pt_val (pe_callB (isiK K) rfl T.b_isinstance (by decide +kernel) (pa_cons (pv 4) (pa_cons (pe_bltn (v := .ty "int") rfl T.b_int (by decide +kernel) rfl) pa_nil))))) (pw_or (pt_val (pe_callB (isiK K) rfl T.b_isinstance (by decide +kernel) (pa_cons (pv 4) (pa_cons (pe_bltn (v := .ty "bool") rfl T.b_bool (by decide +kernel) rfl) pa_nil)))) (pw_or1 (pt_cmpR op_ne (pv 4) (pv 5) (nomark _))))))
        (pss_one (ps_ret pe_bl))
        pss_nil))))))
      (pss_one (ps_ret pe_bl)))), ?_⟩
    have hM' := hM.lli (K := K)
    obtain ⟨as, _, hA, _, hP⟩ := id hM
    obtain ⟨bs, hB, hR⟩ := id hN
    have hlen := hP.length
    have hlen2 := hR.length
    refine q_when (et_or (et_not (et_test (ev_isList (ev_var rfl) hA))) fun _ => et_test (ev_op (ev_lenLLI (ev_var rfl) hM') (ev_lenLLI (ev_var rfl) hN) (rv_ne rfl))) (fun hb H1 e1 => ?_) (fun hb H1 e1 => ?_)
    · refine s_ret ev_c fun H2 e2 => ?_
      have hne : ¬ M = N := fun z => by subst z; simp at hb
      have := q H2 (e1.trans e2)
      rw [decide_eq_false hne] at this
      exact this
    · have hl : M.length = N.length := by
        simp only [Bool.not_true, Bool.false_or, Bool.not_eq_false', decide_eq_true_eq] at hb
        injection hb with hb
        omega
      refine q_forZ (xs := as.map V.ref) (ys := bs.map V.ref) (ea_cons (ev_var rfl) (ea_cons (ev_var rfl) ea_nil)) (sq_of (e1 _ _ hA)) (ex_l e1 hB) (by simp; omega) (fun i σ' H' => ∃ x2 x3 x4 x5, σ' = [some (.ref a), some (.ref b), x2, x3, x4, x5] ∧ Ex H H' ∧ ∀ j, j < i → M[j]? = N[j]?)
        (fun H2 e2 => ⟨_, _, _, _, rfl, e1.trans e2, fun j h => absurd h (Nat.not_lt_zero _)⟩) (fun i σ' H' hP' => by obtain ⟨_, _, _, _, _, eH, _⟩ := hP'; exact ⟨sq_of (eH _ _ hA), ex_l eH hB⟩) (fun i x y T' σ' H' hx hy hP' hT => ?_) (fun σ' H' hP' => ?_)
      · obtain ⟨x2, x3, x4, x5, rfl, eH, hj⟩ := hP'
        have eT : Ex H' (upd H' T' (.tup [x, y])) := Ex.new hT
        rw [List.getElem?_map] at hx hy
        cases hax : as[i]? with
        | none => rw [hax] at hx; cases hx
        | some ax =>
          cases hby : bs[i]? with
          | none => rw [hby] at hy; cases hy
          | some byy =>
            rw [hax] at hx; rw [hby] at hy
            cases hx; cases hy
            obtain ⟨r1, hr1, hO1⟩ := paired_getL hP hax
            obtain ⟨r2, hr2, hO2⟩ := paired_getL hR hby
            have hr1s : r1.length ≤ 1000 := hs.2 _ (List.mem_of_getElem? hr1)
            have hne : r1 ≠ r2 → ∀ H2, Ex (upd H' T' (.tup [.ref ax, .ref byy])) H2 → Q (.bl false) H2 := fun hne H2 e2 => by
              have hMN : ¬ M = N := fun z => hne (by
                subst z
                rw [hr1] at hr2
                exact Option.some.inj hr2)
              have := q H2 ((eH.trans eT).trans e2)
              rw [decide_eq_false hMN] at this
              exact this
            have g1 : ∀ H2, Ex (upd H' T' (.tup [.ref ax, .ref byy])) H2 → H2 ax = some (.lst (r1.map V.int)) := fun H2 e2 => ((eH.trans eT).trans e2) _ _ hO1.2
            have g2 : ∀ H2, Ex (upd H' T' (.tup [.ref ax, .ref byy])) H2 → LI K H2 byy r2 := fun H2 e2 => hO2.mono ((eH.trans eT).trans e2)
            refine q_when (et_or (et_not (et_test (ev_isList (ev_var rfl) (g1 _ (Ex.refl _))))) fun _ => et_test (ev_op (ev_lenLI (xs := r1) (ev_var rfl) (sq_of (g1 _ (Ex.refl _)))) (ev_lenLI (ev_var rfl) (g2 _ (Ex.refl _))) (rv_ne rfl))) (fun hb H2 e2 => ?_) (fun hb H2 e2 => ?_)
            · exact s_ret ev_c fun H3 e3 => hne (fun z => by subst z; simp at hb) H3 (e2.trans e3)
            · have hl2 : r1.length = r2.length := by
                simp only [Bool.not_true, Bool.false_or, Bool.not_eq_false', decide_eq_true_eq] at hb
                injection hb with hb
                omega
              refine s_forZ (xs := r1.map V.int) (ys := r2.map V.int) (ea_cons (ev_var rfl) (ea_cons (ev_var rfl) ea_nil)) (sq_of (g1 _ e2)) (g2 _ e2) (by simp; omega) (fun i' σ' H'' => ∃ x4 x5, σ' = [some (.ref a), some (.ref b), some (.ref ax), some (.ref byy), x4, x5] ∧ Ex (upd H' T' (.tup [.ref ax, .ref byy])) H'' ∧ ∀ j, j < i' → r1[j]? = r2[j]?)
                (fun H3 e3 => ⟨_, _, rfl, e2.trans e3, fun j h => absurd h (Nat.not_lt_zero _)⟩) (fun i' σ' H'' hP'' => by obtain ⟨_, _, _, eH'', _⟩ := hP''; exact ⟨sq_of (g1 _ eH''), g2 _ eH''⟩) (fun i' x y T2 σ' H'' hx hy hP'' hT2 => ?_) (fun σ' H'' hP'' => ?_)
              · obtain ⟨x4, x5, rfl, eH'', hj'⟩ := hP''
                rw [List.getElem?_map] at hx hy
                cases hr1i : r1[i']? with
                | none => rw [hr1i] at hx; cases hx
                | some u1 =>
                  cases hr2i : r2[i']? with
                  | none => rw [hr2i] at hy; cases hy
                  | some u2 =>
                    rw [hr1i] at hx; rw [hr2i] at hy
                    cases hx; cases hy
                    have eT2 : Ex H'' (upd H'' T2 (.tup [.int u1, .int u2])) := Ex.new hT2
                    refine s_when (et_or (et_not (et_test (ev_isInt (ev_var rfl)))) fun _ => et_or (et_test (ev_isIntBool (ev_var rfl))) fun _ => et_test (ev_op (ev_var rfl) (ev_var rfl) (rv_ne rfl))) (fun hb H3 e3 => ?_) (fun hb H3 e3 => ?_)
                    · refine s_ret ev_c fun H4 e4 => hne (fun z => ?_) H4 ((eH''.trans eT2).trans (e3.trans e4))
                      subst z
                      rw [hr1i] at hr2i
                      cases hr2i
                      simp at hb
                    · have hu : u1 = u2 := by
                        simp only [Bool.not_true, Bool.false_or, Bool.not_eq_false', decide_eq_true_eq] at hb
                        injection hb
                      refine ⟨_, _, rfl, (eH''.trans eT2).trans e3, fun j hj => ?_⟩
                      by_cases hji : j = i'
                      · subst hji
                        rw [hr1i, hr2i, hu]
                      · exact hj' j (by omega)
              · obtain ⟨x4, x5, rfl, eH'', hj'⟩ := hP''
                have hrr : r1 = r2 := by
                  apply List.ext_getElem?
                  intro j
                  by_cases hjl : j < r1.length
                  · exact hj' j (by simpa using hjl)
                  · rw [List.getElem?_eq_none (by omega), List.getElem?_eq_none (by omega)]
                refine ⟨_, _, _, _, rfl, (eH.trans eT).trans eH'', fun j hji => ?_⟩
                by_cases hjj : j = i
                · subst hjj
                  rw [hr1, hr2, hrr]
                · exact hj j (by omega)
      · obtain ⟨x2, x3, x4, x5, rfl, eH, hj⟩ := hP'
        have hMN : M = N := by
          apply List.ext_getElem?
          intro j
          by_cases hjl : j < M.length
          · exact hj j (by simp; omega)
          · rw [List.getElem?_eq_none (by omega), List.getElem?_eq_none (by omega)]
        refine s_ret ev_c fun H2 e2 => ?_
        have := q H2 (eH.trans e2)
        rw [decide_eq_true hMN] at this
        exact this
end
end AT

/-! ## the known defs' calls in one word; what turning keeps -/
namespace AT
open PySem PySem.Spec PyProof.Rows L2 Evl
section
variable {K : Frag} {σ : St} {H : Hp} {ta : TA} {te t1 : TE} {a p : Addr} {M : List (List Int)} {ns : List Int} {E : XK} {C1 C2 : Addr}
/-- a form drawn -/
def RForm (most : Nat) : R3 := fun H1 H2 v => ∃ n f p, v = .ref p ∧ FormOf n f ∧ n ≤ most ∧ OLLI H1 H2 p (Fm n f)
theorem mon_RForm {most : Nat} : Mon (RForm most) := ⟨fun e ⟨n, f, p, h1, h2, h3, h4⟩ => ⟨n, f, p, h1, h2, h3, h4.mono e⟩, fun e ⟨n, f, p, h1, h2, h3, h4⟩ => ⟨n, f, p, h1, h2, h3, h4.back e⟩⟩
theorem er_form {j most : Nat} (hL : LI K H a ns) (h : EvA ta σ H [.ref a, .int (j : Int), .int (most : Int)]) (hj : j ≤ 1000) (h1 : 1 ≤ most) (h6 : most ≤ 6) : Er (tCall (sp__law_form K) [] E ta) σ H (RForm most) :=
  er_call mon_RForm h fun H1 e1 Q q E => ⟨a, ns, j, most, rfl, hL.mono e1, hj, h1, h6, fun n f H' p e hf hm hO => q _ H' e ⟨n, f, p, rfl, hf, hm, hO⟩⟩
theorem er_copy (h : Ev te σ H (.ref a)) (hM : LLI K H a M) (hl : M.length ≤ 1000) : Er (tCall (sp__law_copy K) [] E (tCons te tNil)) σ H (RM M) :=
  er_call mon_RM (ea_cons h ea_nil) fun H1 e1 Q q E => ⟨a, M, rfl, hM.mono e1, hl, fun H' p e hO => q _ H' e ⟨p, rfl, hO⟩⟩
theorem fmI {n : Nat} {f : Nat → Nat → Int} (hf : FormOf n f) : IsForm (Fm n f) := ⟨n, f, rfl, hf⟩
theorem turnF_ext {n k : Nat} {f g : Nat → Nat → Int} (hk : k < n) (h : ∀ i j, i < n → j < n → f i j = g i j) : Fm n (turnF f k) = Fm n (turnF g k) := fm_ext fun a b ha hb => by
  unfold turnF
  rw [h a b ha hb, h a k ha hk, h k b hk hb]
/-- turned: its promise at a form and a box of it -/
theorem spr_turned {n k : Nat} {f : Nat → Nat → Int} (hf : FormOf n f) (hk : k < n) (hM : LLI K H a (Fm n f)) : SpR (sp_turned K C1 C2) [.ref a, .int (k : Int)] H (RM (Fm n (turnF f k))) := fun H1 e1 Q q E => by
  refine ⟨a, _, _, rfl, hM.mono e1, small_fm (by have := hf.2.1; omega), fun hF => absurd (fmI hf) hF, fun n' f' e hf' => ?_⟩
  obtain ⟨rfl, ee⟩ := fm_inj e
  refine ⟨fun j hj hjn H' p e hO => q _ H' e ⟨p, rfl, ?_⟩, fun z => by omega⟩
  have hji : j = k := by omega
  subst hji
  rw [turnF_ext hjn ee]
  exact hO
theorem er_turned {n k : Nat} {f : Nat → Nat → Int} (hf : FormOf n f) (hk : k < n) (hM : LLI K H a (Fm n f)) (h : EvA ta σ H [.ref a, .int (k : Int)]) : Er (tCall (sp_turned K C1 C2) [] E ta) σ H (RM (Fm n (turnF f k))) :=
  er_call mon_RM h (spr_turned hf hk hM)
theorem spv_is_form (hM : LLI K H a M) (hs : SmallM M) : SpV (sp_is_form K) [.ref a] H (.bl (dec (IsForm M))) := fun H1 e1 Q q E => ⟨a, M, rfl, hM.mono e1, hs.1, hs.2, fun b H2 e2 hb => by rw [dec_eq hb]; exact q H2 e2⟩
/-- a new list of lists is like another one -/
theorem spv_like {b : Addr} {N : List (List Int)} (hO : TLL H a M) (hN : LLI K H b N) (hs : SmallM M) : SpV (sp__law_like K) [.ref a, .ref b] H (.bl (decide (M = N))) := fun H1 e1 Q q E => ⟨a, b, M, N, rfl, hO.mono e1, hN.mono e1, hs, q⟩
theorem ev_likeR {t2 : TE} {b : Addr} {N : List (List Int)} (h1 : Er t1 σ H (RM M)) (h2 : Ev t2 σ H (.ref b)) (hN : LLI K H b N) (hs : SmallM M) : Ev (tCall (sp__law_like K) [] E (tCons t1 (tCons t2 tNil))) σ H (.bl (decide (M = N))) :=
  ev_callR1 h1 (ea_cons h2 ea_nil) fun v1 G1 G2 G3 g1 g2 g3 ⟨c, hc, hOc⟩ => by
    subst hc
    exact spv_like (hOc.tll.mono g3) (hN.mono ((g1.trans g2).trans g3)) hs
theorem er_turnedR {t2 : TE} {n k : Nat} {f : Nat → Nat → Int} (hf : FormOf n f) (hk : k < n) (h1 : Er t1 σ H (RM (Fm n f))) (h2 : Ev t2 σ H (.int (k : Int))) : Er (tCall (sp_turned K C1 C2) [] E (tCons t1 (tCons t2 tNil))) σ H (RM (Fm n (turnF f k))) :=
  er_callR1 mon_RM h1 (ea_cons h2 ea_nil) fun v1 G1 G2 G3 g1 g2 g3 ⟨c, hc, hOc⟩ => by
    subst hc
    exact spr_turned hf hk (hOc.lli.mono g3)
theorem ev_isFormR (h1 : Er t1 σ H (RM M)) (hs : SmallM M) : Ev (tCall (sp_is_form K) [] E (tCons t1 tNil)) σ H (.bl (dec (IsForm M))) :=
  ev_callR1 h1 ea_nil fun v1 G1 G2 G3 g1 g2 g3 ⟨c, hc, hOc⟩ => by
    subst hc
    exact spv_is_form (hOc.lli.mono g3) hs
end

/-! ### the rule of turning: skew, undone by itself -/
def Skew (n : Nat) (f : Nat → Nat → Int) : Prop := ∀ i j, i < n → j < n → f i j = 0 - f j i
theorem FormOf.skew {n : Nat} {f : Nat → Nat → Int} (h : FormOf n f) : Skew n f := fun i j hi hj => (h.2.2 i j hi hj).1
theorem thr_neg (a b : Int) : thr (0 - b) (0 - a) = 0 - thr a b := by
  unfold thr
  have e : (0 - b) * (0 - a) = a * b := by rw [Int.zero_sub, Int.zero_sub, Int.neg_mul_neg, Int.mul_comm]
  rw [e]
  by_cases h1 : 0 < a ∧ 0 < b
  · rw [if_neg (by omega), if_pos (by omega), if_pos h1]
  · by_cases h2 : a < 0 ∧ b < 0
    · rw [if_pos (by omega), if_neg h1, if_pos h2]
      omega
    · rw [if_neg (by omega), if_neg (by omega), if_neg h1, if_neg h2]
      rfl
theorem thr_neg' (a b : Int) : thr (0 - a) (0 - b) = 0 - thr a b := by
  unfold thr
  have e : (0 - a) * (0 - b) = a * b := by rw [Int.zero_sub, Int.zero_sub, Int.neg_mul_neg]
  rw [e]
  by_cases h1 : 0 < a ∧ 0 < b
  · rw [if_neg (by omega), if_pos (by omega), if_pos h1]
  · by_cases h2 : a < 0 ∧ b < 0
    · rw [if_pos (by omega), if_neg h1, if_pos h2]
      omega
    · rw [if_neg (by omega), if_neg (by omega), if_neg h1, if_neg h2]
      rfl
theorem turnF_skew {n k : Nat} {f : Nat → Nat → Int} (hs : Skew n f) (hk : k < n) : Skew n (turnF f k) := fun i j hi hj => by
  unfold turnF
  have h1 := hs i j hi hj
  by_cases h : i = k ∨ j = k
  · rw [if_pos h, if_pos (by omega)]
    omega
  · rw [if_neg h, if_neg (by omega), hs j k hj hk, hs k i hk hi, thr_neg]
    omega
theorem turnF_twice {n k : Nat} {f : Nat → Nat → Int} (hk : k < n) : Fm n (turnF (turnF f k) k) = Fm n f := fm_ext fun i j hi hj => by
  by_cases h : i = k ∨ j = k
  · show (if i = k ∨ j = k then 0 - turnF f k i j else _) = _
    rw [if_pos h]
    unfold turnF
    rw [if_pos h]
    omega
  · show (if i = k ∨ j = k then _ else turnF f k i j + thr (turnF f k i k) (turnF f k k j)) = _
    rw [if_neg h]
    have e1 : turnF f k i j = f i j + thr (f i k) (f k j) := by unfold turnF; rw [if_neg h]
    have e2 : turnF f k i k = 0 - f i k := by unfold turnF; rw [if_pos (.inr rfl)]
    have e3 : turnF f k k j = 0 - f k j := by unfold turnF; rw [if_pos (.inl rfl)]
    rw [e1, e2, e3, thr_neg']
    omega
end AT

/-! ## names: lists of all boxes' numbers -/
namespace AT
open PySem PySem.Spec PyProof.Rows L2 Evl
def nI (ps : List Nat) : List Int := ps.map fun x : Nat => (x : Int)
theorem nI_len {ps : List Nat} : (nI ps).length = ps.length := by unfold nI; rw [List.length_map]
/-- ps names the n boxes -/
def Names (n : Nat) (ps : List Nat) : Prop := ps.Perm (List.range n)
def IsNames (n : Nat) (xs : List Int) : Prop := xs.Perm (nI (List.range n))
theorem Names.len {n : Nat} {ps : List Nat} (h : Names n ps) : ps.length = n := by rw [h.length_eq, List.length_range]
theorem Names.nd {n : Nat} {ps : List Nat} (h : Names n ps) : ps.Nodup := (List.Perm.nodup_iff h).mpr List.nodup_range
theorem Names.mem {n : Nat} {ps : List Nat} (h : Names n ps) {x : Nat} : x ∈ ps ↔ x < n := by rw [List.Perm.mem_iff h, List.mem_range]
theorem Names.lt {n i : Nat} {ps : List Nat} (h : Names n ps) (hi : i < n) : ∃ x, ps[i]? = some x ∧ x < n := by
  have hl : i < ps.length := by rw [h.len]; exact hi
  exact ⟨ps[i], List.getElem?_eq_getElem hl, h.mem.mp (List.getElem_mem hl)⟩
theorem Names.ix {n k : Nat} {ps : List Nat} (h : Names n ps) (hk : k < n) : ps.idxOf k < n := by
  have := List.idxOf_lt_length_iff.mpr (h.mem.mpr hk)
  rw [h.len] at this
  exact this
theorem Names.at_ix {n k : Nat} {ps : List Nat} (h : Names n ps) (hk : k < n) : ps[ps.idxOf k]? = some k := by
  have hl := List.idxOf_lt_length_iff.mpr (h.mem.mpr hk)
  rw [List.getElem?_eq_getElem hl, List.getElem_idxOf]
theorem Names.ix_at {n i x : Nat} {ps : List Nat} (h : Names n ps) (hx : ps[i]? = some x) : ps.idxOf x = i := by
  obtain ⟨hi, e⟩ := List.getElem?_eq_some_iff.mp hx
  rw [← e]
  exact h.nd.idxOf_getElem i hi
theorem isNames_iff {n : Nat} {xs : List Int} : IsNames n xs ↔ ∃ ps, Names n ps ∧ xs = nI ps := by
  constructor
  · intro h
    have hx : ∀ x, x ∈ xs → 0 ≤ x := fun x hx => by
      obtain ⟨y, _, rfl⟩ := List.mem_map.mp ((List.Perm.mem_iff h).mp hx)
      omega
    refine ⟨xs.map Int.toNat, ?_, ?_⟩
    · have := h.map Int.toNat
      have e : (nI (List.range n)).map Int.toNat = List.range n := by
        unfold nI
        rw [List.map_map]
        conv => rhs; rw [← List.map_id (List.range n)]
        exact List.map_congr_left fun x _ => by simp
      rw [e] at this
      exact this
    · unfold nI
      rw [List.map_map]
      conv => lhs; rw [← List.map_id xs]
      exact List.map_congr_left fun x hx' => by have := hx x hx'; simp; omega
  · rintro ⟨ps, h, rfl⟩
    exact h.map _
/-- f renamed: at the names of two boxes what stood at the two -/
def renF (f : Nat → Nat → Int) (ps : List Nat) : Nat → Nat → Int := fun i j => f (ps.idxOf i) (ps.idxOf j)
theorem idx_nI (ps : List Nat) (k : Nat) : (nI ps).idxOf (k : Int) = ps.idxOf k := by
  induction ps with
  | nil => rfl
  | cons a r ih =>
    show List.idxOf (k : Int) ((a : Int) :: nI r) = _
    rw [List.idxOf_cons, List.idxOf_cons, ih]
    by_cases e : a = k
    · subst e; simp
    · have : ¬ (a : Int) = (k : Int) := by omega
      have e1 : (a == k) = false := by simpa using e
      have e2 : ((a : Int) == (k : Int)) = false := by simpa using this
      rw [e1, e2]
def sp_renamed_by (K : Frag) : Sp := fun vs H Q _ => ∃ a b n f ps, vs = [.ref a, .ref b] ∧ LLI K H a (Fm n f) ∧ LI K H b (nI ps) ∧ Names n ps ∧ n ≤ 100 ∧ ∀ H' p, Ex H H' → OLLI H H' p (Fm n (renF f ps)) → Q (.ref p) H'
def sp_renamed (K : Frag) (CF CN : Addr) : Sp := fun vs H Q E => ∃ a b M xs, vs = [.ref a, .ref b] ∧ LLI K H a M ∧ SmallM M ∧ LI K H b xs ∧ xs.length < 64 ∧ (¬ IsForm M → ∀ H', Ex H H' → E (.ref CF) none H') ∧
  (∀ n f, M = Fm n f → FormOf n f → (¬ IsNames n xs → ∀ H', Ex H H' → E (.ref CN) none H') ∧ (∀ ps, Names n ps → xs = nI ps → ∀ H' p, Ex H H' → OLLI H H' p (Fm n (renF f ps)) → Q (.ref p) H'))
def sp__law_renamed (K : Frag) : Sp := sp_renamed_by K
def sp__law_some_names (K : Frag) : Sp := fun vs H Q _ => ∃ (a : Addr) (ns : List Int) (k n : Nat), vs = [.ref a, .int (k : Int), .int (n : Int)] ∧ LI K H a ns ∧ k ≤ 1000 ∧ n ≤ 20 ∧ ∀ ps H' p, Ex H H' → Names n ps → OLI H H' p (nI ps) → Q (.ref p) H'
section
variable {P : Program} {w : World} {K : Frag} {mg : Str → Option Value} {base : Heap} {k : Nat}
theorem idx_first {xs : List Int} {k : Int} {m : Nat} {z : Int} (hm : m < xs.idxOf k) (hz : xs[m]? = some z) : z ≠ k := fun e => by
  subst e
  obtain ⟨h, e⟩ := List.getElem?_eq_some_iff.mp hz
  have := List.not_of_lt_findIdx (p := (· == z)) (xs := xs) (show m < List.findIdx (· == z) xs from hm)
  simp at this
  exact this e
/-- xs.index(k) -/
theorem ev_index {σ : St} {H : Hp} {a : Addr} {xs : List Int} {k : Int} {ta tb : TE} (ha : Ev ta σ H (.ref a)) (hb : Ev tb σ H (.int k)) (hL : LI K H a xs) (hk : k ∈ xs) : Ev (tBM K "list" (rIndex K) ta (tCons tb tNil)) σ H (.int ((xs.idxOf k : Nat) : Int)) := fun H1 e Q q =>
  ha H1 e _ fun H2 e2 => ⟨.inl ⟨rfl, _, hL.mono (e.trans e2)⟩, hb H2 (e.trans e2) _ fun H3 e3 => ⟨a, xs.map V.int, .int k, xs.idxOf k, .int k, rfl, rfl, hL.mono ((e.trans e2).trans e3), rfl, by simp [flatV], by
    have hl := List.idxOf_lt_length_iff.mpr hk
    rw [List.getElem?_map, List.getElem?_eq_getElem hl, List.getElem_idxOf]
    rfl, by simp [eqV], fun m z hm hz => by
    rw [List.getElem?_map] at hz
    cases h : xs[m]? with
    | none => rw [h] at hz; cases hz
    | some y =>
      rw [h] at hz
      cases hz
      simpa [eqV] using idx_first hm h, q H3 (e2.trans e3)⟩⟩
/-- list(range(n)) -/
theorem el_rangeL {σ : St} {H : Hp} {n : Nat} {ta : TE} (ha : Ev ta σ H (.int (n : Int))) (hn : n ≤ 100000) : EvL (tLstRg (tRg1 ta)) σ H ((nI (List.range n)).map V.int) := fun H1 e Q q =>
  ha H1 e _ fun H2 e2 => ⟨(n : Int), rfl, RgOk.of_le (by omega) (by omega) (by omega) (by omega), fun p hp => by
    refine q p _ (fresh_back e2 hp) (e2.trans (Ex.new hp)) ?_
    rw [upd_same]
    unfold rgV nI
    rw [List.map_map, show ((n : Int) - 0).toNat = n by omega]
    congr 2
    exact List.map_congr_left fun x _ => by simp⟩
/-- sorted(xs) == list(range(n)), != -/
theorem sorted_range {n : Nat} {xs ys : List Int} (h1 : ys.Perm xs) (h2 : ys.Pairwise (· ≤ ·)) : decide (ys = nI (List.range n)) = dec (IsNames n xs) := dec_eq (by
  rw [decide_eq_true_eq]
  constructor
  · rintro rfl
    exact h1.symm
  · intro h
    refine List.Perm.eq_of_pairwise (fun a b _ _ h1 h2 => Int.le_antisymm h1 h2) h2 ?_ (h1.trans h)
    unfold nI
    rw [List.pairwise_map]
    exact List.pairwise_lt_range.imp fun h => by omega)
theorem er_sorted {σ : St} {H : Hp} {a : Addr} {xs : List Int} {ta : TE} (ha : Ev ta σ H (.ref a)) (hL : LI K H a xs) (h64 : xs.length < 64) : Er (tCB (rSorted K) (tCons ta tNil)) σ H (fun H1 H2 v => ∃ (p : Addr) (ys : List Int), v = .ref p ∧ H1 p = none ∧ ys.Perm xs ∧ ys.Pairwise (· ≤ ·) ∧ H2 p = some (.lst (ys.map V.int))) := fun H1 e Q q =>
  ha H1 e _ fun H2 e2 => ⟨a, xs, rfl, hL.mono (e.trans e2), h64, fun ys p h1 h2 hp => q _ _ (e2.trans (Ex.new hp)) ⟨p, ys, rfl, fresh_back e2 hp, h1, h2, upd_same⟩⟩
theorem ev_isNames {σ : St} {H : Hp} {a : Addr} {n : Nat} {xs : List Int} {ta tb : TE} (ha : Ev ta σ H (.ref a)) (hb : Ev tb σ H (.int (n : Int))) (hL : LI K H a xs) (h64 : xs.length < 64) (hn : n ≤ 100000) :
    Ev (tOp (rEqD K) (tCB (rSorted K) (tCons ta tNil)) (tLstRg (tRg1 tb))) σ H (.bl (dec (IsNames n xs))) := fun H1 e Q q =>
  er_sorted ha hL h64 H1 e _ fun v H2 e2 ⟨p, ys, hv, hp0, h1, h2, hp⟩ => by
    subst hv
    refine el_rangeL hb hn H2 (e.trans e2) _ fun r H3 hr e3 hr3 => ?_
    rw [← sorted_range h1 h2] at q
    exact rv_eqI (sq_of (e3 _ _ hp)) (sq_of hr3) H3 (Ex.refl _) Q fun H4 e4 => q H4 ((e2.trans e3).trans e4)
theorem ev_isNotNames {σ : St} {H : Hp} {a : Addr} {n : Nat} {xs : List Int} {ta tb : TE} (ha : Ev ta σ H (.ref a)) (hb : Ev tb σ H (.int (n : Int))) (hL : LI K H a xs) (h64 : xs.length < 64) (hn : n ≤ 100000) :
    Ev (tOp (rNeD K) (tCB (rSorted K) (tCons ta tNil)) (tLstRg (tRg1 tb))) σ H (.bl (!dec (IsNames n xs))) := fun H1 e Q q =>
  er_sorted ha hL h64 H1 e _ fun v H2 e2 ⟨p, ys, hv, hp0, h1, h2, hp⟩ => by
    subst hv
    refine el_rangeL hb hn H2 (e.trans e2) _ fun r H3 hr e3 hr3 => ?_
    rw [← sorted_range h1 h2] at q
    exact rv_neI (sq_of (e3 _ _ hp)) (sq_of hr3) H3 (Ex.refl _) Q fun H4 e4 => q H4 ((e2.trans e3).trans e4)
theorem nI_erase (ls : List Nat) (i : Nat) : (nI ls).eraseIdx i = nI (ls.eraseIdx i) := map_erase _ ls i
theorem perm_erase : ∀ (ls : List Nat) (i : Nat) (h : i < ls.length), (ls[i] :: ls.eraseIdx i).Perm ls
  | a :: r, 0, _ => List.Perm.refl _
  | a :: r, i + 1, h => by
    have ih := perm_erase r i (by simpa using h)
    show (r[i]'(by simpa using h) :: a :: r.eraseIdx i).Perm (a :: r)
    exact (List.Perm.swap _ _ _).trans (ih.cons a)
theorem nI_get {ps : List Nat} {i x : Nat} (h : ps[i]? = some x) : (nI ps)[i]? = some (x : Int) := by unfold nI; rw [List.getElem?_map, h]; rfl
theorem ok__law_renamed (T : Txt K mg) : FnOk P w K mg base CX0 (k + 1) T.f__law_renamed T.d__law_renamed ["form", "names"] (sp__law_renamed K) := by
  refine T.F__law_renamed.ok sc__law_renamed (fun vs H Q E h => ?_) (fun cdv A outer s H vs Q E hr h => ?_)
  · obtain ⟨a, b, n, f, ps, rfl, _⟩ := h
    rfl
  · obtain ⟨a, b, n, f, ps, rfl, hM, hN, hps, hn, q⟩ := h
    refine ⟨_, (pss_cons (ps_set (i := 2) sc__law_renamed.nd rfl (.inr rfl) (pe_callB (lenK K) rfl T.b_len PySem.boot_len (pa_cons (pv 0) pa_nil)))
      (pss_cons (ps_setLc (i := 3) (own := [("i", 4)]) rfl sc__law_renamed.nd rfl rfl (sw_true rfl rfl rfl (by decide +kernel)) (pi_range1 rfl T.b_range (pa_cons (pv 2) pa_nil)) (blkOk_by (own := [("i", 4)]) (N := N__law_renamed) (sc := defScope s__law_renamed) (by decide +kernel)) (fun _ _ _ _ _ => (pg_name (i := 4) sc__law_renamed.nd rfl (.inl rfl))) (fun _ _ _ _ _ => pts_nil) (fun _ _ _ _ _ => (pe_lc (own := [("j", 5)]) rfl sc__law_renamed.nd (pi_range1 rfl T.b_range (pa_cons (pv 2) pa_nil)) (blkOk_by (own := [("j", 5)]) (N := N__law_renamed) (sc := relS { kind := .function, names := [(PySem.Str.ofString ".0", PySem.NameKind.local), (PySem.Str.ofString "i", PySem.NameKind.local), (PySem.Str.ofString "range", PySem.NameKind.globalImplicit), (PySem.Str.ofString "count", PySem.NameKind.free)], isGenerator := false, isCoroutine := false, more := [] } (defScope s__law_renamed)) (by decide +kernel)) (fun _ _ _ _ _ => (pg_name (i := 5) sc__law_renamed.nd rfl (.inl rfl))) (fun _ _ _ _ _ => pts_nil) (fun _ _ _ _ _ => pe_int))))
      (pss_cons (ps_for PassesOwn.never rfl (pi_range1 rfl T.b_range (pa_cons (pv 2) pa_nil)) (pg_name (i := 4) sc__law_renamed.nd rfl (.inl rfl))
        (pss_one (ps_for PassesOwn.never rfl (pi_range1 rfl T.b_range (pa_cons (pv 2) pa_nil)) (pg_name (i := 5) sc__law_renamed.nd rfl (.inl rfl))
        (pss_one (ps_asg (pe_ix (ixL K) (pe_ix (ixL K) (pv 0) (pv 4) (fun _ _ => rfl)) (pv 5) (fun _ _ => rfl)) (pg_sub (pe_ix (ixL K) (pv 3) (pe_ix (ixL K) (pv 1) (pv 4) (fun _ _ => rfl)) (fun _ _ => rfl)) (pe_ix (ixL K) (pv 1) (pv 5) (fun _ _ => rfl)) set_list))))))
      (pss_one (ps_ret (pv 3)))))), ?_⟩
    refine q_asg (ev_lenFm (ev_var rfl) hM) fun H1 e1 => ?_
    refine qr_asg (em_lcR (n := (n : Int)) (fun i => (List.range n).map fun _ => 0) (ea_cons (ev_var rfl) ea_nil) (by omega) (fun _ => rfl) (fun i H2 e2 hi => er_of_evl ?_)) fun v H2 e2 ⟨p, hv, hO⟩ => ?_
    · have := el_lcR1 (n := (n : Int)) (σ := (wipe [some (V.ref a), some (.ref b), some (.int (n : Int)), none, none, none] [4]).set 4 (some (.int (i : Int)))) (H := H2) (ta := tCons (tVar 2) tNil) (j := 5) (vs := [5]) (t := tYes) (te := tC (.int 0)) (fun _ => true) (fun _ => .int 0) (ea_cons (ev_var rfl) ea_nil) (by omega) (fun _ => rfl) (fun _ _ _ _ _ _ Q q => q _ (Ex.refl _)) (fun _ _ _ _ _ => ev_c)
      unfold given at this
      rw [filt_all] at this
      rw [List.map_map]
      exact this
    subst hv
    rw [show (n : Int).toNat = n from Int.toNat_natCast n] at hO
    have hO2 : OLLI H H2 p (Fm n fun _ _ => 0) := OLLI.back e1 (show OLLI H1 H2 p (Fm n fun _ _ => 0) from hO)
    have e12 := e1.trans e2
    -- what is done behind i rows and j numbers: at names of less than that
    refine q_forR1 (n := (n : Int)) (ea_cons (ev_var rfl) ea_nil) (by omega) (fun i σ' H' => ∃ g x4 x5, σ' = [some (.ref a), some (.ref b), some (.int (n : Int)), some (.ref p), x4, x5] ∧ Ex H H' ∧ OLLI H H' p (Fm n g) ∧ ∀ x y, x < n → y < n → ps.idxOf x < i → g x y = renF f ps x y)
      (fun H3 e3 => ⟨_, _, _, rfl, e12.trans e3, hO2.mono e3, fun x y hx hy h => absurd h (Nat.not_lt_zero _)⟩) (fun i σ' H' hi hP => ?_) (fun σ' H' hP => ?_)
    · obtain ⟨g, x4, x5, rfl, eH, hO, hg⟩ := hP
      have hi' : i < n := by omega
      obtain ⟨u, hu, hun⟩ := hps.lt hi'
      have hiu := hps.ix_at hu
      refine s_forR1 (n := (n : Int)) (ea_cons (ev_var rfl) ea_nil) (by omega) (fun j σ' H' => ∃ g x5, σ' = [some (.ref a), some (.ref b), some (.int (n : Int)), some (.ref p), some (.int (i : Int)), x5] ∧ Ex H H' ∧ OLLI H H' p (Fm n g) ∧ ∀ x y, x < n → y < n → (ps.idxOf x < i ∨ (ps.idxOf x = i ∧ ps.idxOf y < j)) → g x y = renF f ps x y)
        (fun H3 e3 => ⟨g, _, rfl, eH.trans e3, hO.mono e3, fun x y hx hy h => hg x y hx hy (by omega)⟩) (fun j σ' H' hj hP => ?_) (fun σ' H' hP => ?_)
      · obtain ⟨g, x5, rfl, eH, hO, hg⟩ := hP
        have hj' : j < n := by omega
        obtain ⟨v, hv, hvn⟩ := hps.lt hj'
        have hjv := hps.ix_at hv
        have hM3 := hM.mono eH
        have hN3 := hN.mono eH
        refine s_setFm (i := u) (j := v) hO eH hun hvn (ev_fm (ev_var rfl) (ev_var rfl) (ev_var rfl) hM3 hi' hj') (ev_var rfl) (ev_item (ev_var rfl) (ev_var rfl) hN3 (nI_get hu)) (ev_item (ev_var rfl) (ev_var rfl) hN3 (nI_get hv)) fun H4 e4 hO4 => ⟨_, _, rfl, e4, hO4, fun x y hx hy h => ?_⟩
        unfold setF
        by_cases hxy : x = u ∧ y = v
        · rw [if_pos hxy]
          obtain ⟨rfl, rfl⟩ := hxy
          unfold renF
          rw [hiu, hjv]
        · rw [if_neg hxy]
          refine hg x y hx hy ?_
          rcases h with h | ⟨h1, h2⟩
          · exact .inl h
          · refine .inr ⟨h1, ?_⟩
            by_cases hyj : ps.idxOf y = j
            · refine absurd ⟨?_, ?_⟩ hxy
              · have h3 := hps.at_ix hx
                rw [h1, hu] at h3
                exact (Option.some.inj h3).symm
              · have h3 := hps.at_ix hy
                rw [hyj, hv] at h3
                exact (Option.some.inj h3).symm
            · omega
      · obtain ⟨g, x5, rfl, eH, hO, hg⟩ := hP
        refine ⟨g, _, _, rfl, eH, hO, fun x y hx hy h => hg x y hx hy ?_⟩
        have := hps.ix hy
        by_cases hxi : ps.idxOf x = i
        · exact .inr ⟨hxi, by omega⟩
        · exact .inl (by omega)
    · obtain ⟨g, x4, x5, rfl, eH, hO, hg⟩ := hP
      refine s_ret (ev_var rfl) fun H3 e3 => q H3 p (eH.trans e3) ?_
      have : Fm n g = Fm n (renF f ps) := fm_ext fun x y hx hy => hg x y hx hy (by have := hps.ix hx; omega)
      rw [← this]
      exact hO.mono e3
end
end AT

/-! ## all names, one behind the other; the first that lead from one form to another (plain Lean) -/
namespace AT
theorem perm_of_sub {α : Type} [BEq α] [LawfulBEq α] : ∀ {l l' : List α}, l.Nodup → (∀ x, x ∈ l → x ∈ l') → l'.length ≤ l.length → l.Perm l'
  | [], l', _, _, h => by
    have : l' = [] := List.eq_nil_of_length_eq_zero (by simpa using h)
    subst this
    exact List.Perm.refl _
  | a :: t, l', nd, hs, hl => by
    rw [List.nodup_cons] at nd
    have ha : a ∈ l' := hs a List.mem_cons_self
    have hp := List.perm_cons_erase ha
    refine List.Perm.trans (List.Perm.cons a ?_) hp.symm
    refine perm_of_sub nd.2 (fun x hx => ?_) ?_
    · have hxa : x ≠ a := fun e => nd.1 (e ▸ hx)
      exact (List.mem_erase_of_ne hxa).mpr (hs x (List.mem_cons_of_mem _ hx))
    · have := hp.length_eq
      simp only [List.length_cons] at this hl
      omega
def ext (n : Nat) (ps : List Nat) : List (List Nat) := ((List.range n).filter fun x => decide (x ∉ ps)).map fun x => ps ++ [x]
def allAt (n : Nat) : Nat → List (List Nat)
  | 0 => [[]]
  | t + 1 => (allAt n t).flatMap (ext n)
def comp (n : Nat) : Nat → List Nat → List (List Nat)
  | 0, ps => [ps]
  | d + 1, ps => (ext n ps).flatMap (comp n d)
theorem comp_add (n s : Nat) : ∀ (t : Nat) (ps : List Nat), comp n (t + s) ps = (comp n t ps).flatMap (comp n s)
  | 0, ps => by
    rw [Nat.zero_add]
    show comp n s ps = [ps].flatMap (comp n s)
    simp
  | t + 1, ps => by
    rw [show t + 1 + s = (t + s) + 1 by omega]
    show (ext n ps).flatMap (comp n (t + s)) = ((ext n ps).flatMap (comp n t)).flatMap (comp n s)
    rw [List.flatMap_assoc]
    congr 1
    funext q
    exact comp_add n s t q
theorem allAt_comp (n : Nat) : ∀ t, allAt n t = comp n t []
  | 0 => rfl
  | t + 1 => by
    rw [comp_add n 1 t []]
    show (allAt n t).flatMap (ext n) = _
    rw [allAt_comp n t]
    congr 1
    funext q
    show ext n q = (ext n q).flatMap fun x => [x]
    simp
/-- so many boxes named, each once -/
structure Part (n : Nat) (ps : List Nat) : Prop where
  nd : ps.Nodup
  lt : ∀ x, x ∈ ps → x < n
theorem Part.snoc {n x : Nat} {ps : List Nat} (h : Part n ps) (hx : x < n) (hn : x ∉ ps) : Part n (ps ++ [x]) := ⟨by
  rw [List.nodup_append]
  exact ⟨h.nd, by simp, fun a ha b hb => by
    have : b = x := by simpa using hb
    subst this
    exact fun e => hn (e ▸ ha)⟩, fun y hy => by
  rcases List.mem_append.mp hy with hy | hy
  · exact h.lt y hy
  · have : y = x := by simpa using hy
    omega⟩
theorem part_nil {n : Nat} : Part n [] := ⟨List.nodup_nil, fun _ h => by cases h⟩
theorem mem_ext {n : Nat} {ps qs : List Nat} : qs ∈ ext n ps ↔ ∃ x, x < n ∧ x ∉ ps ∧ qs = ps ++ [x] := by
  unfold ext
  simp only [List.mem_map, List.mem_filter, List.mem_range, decide_eq_true_eq]
  constructor
  · rintro ⟨x, ⟨h1, h2⟩, rfl⟩
    exact ⟨x, h1, h2, rfl⟩
  · rintro ⟨x, h1, h2, rfl⟩
    exact ⟨x, ⟨h1, h2⟩, rfl⟩
theorem comp_part {n : Nat} : ∀ {d : Nat} {ps qs : List Nat}, Part n ps → qs ∈ comp n d ps → Part n qs ∧ qs.length = ps.length + d ∧ ps <+: qs
  | 0, ps, qs, h, hq => by
    have : qs = ps := by simpa [comp] using hq
    subst this
    exact ⟨h, rfl, List.prefix_refl _⟩
  | d + 1, ps, qs, h, hq => by
    obtain ⟨rs, h1, h2⟩ := List.mem_flatMap.mp (show qs ∈ (ext n ps).flatMap (comp n d) from hq)
    obtain ⟨x, hx, hn, rfl⟩ := mem_ext.mp h1
    obtain ⟨q1, q2, q3⟩ := comp_part (h.snoc hx hn) h2
    exact ⟨q1, by rw [q2]; simp; omega, (List.prefix_append _ _).trans q3⟩
theorem findSome_fm {α β γ : Type} (p : α → Bool) (g : α → β) (h : β → Option γ) : ∀ l : List α, ((l.filter p).map g).findSome? h = l.findSome? fun x => if p x = true then h (g x) else none
  | [] => rfl
  | a :: r => by
    have ih := findSome_fm p g h r
    by_cases e : p a = true
    · rw [List.filter_cons_of_pos e, List.map_cons, List.findSome?_cons, List.findSome?_cons, if_pos e, ih]
    · rw [List.filter_cons_of_neg e, List.findSome?_cons, if_neg e, ih]
/-- the names lead from f to g -/
def Lead (n : Nat) (f g : Nat → Nat → Int) (qs : List Nat) : Prop := ∀ i j, i < n → j < n → g (qs.getD i 0) (qs.getD j 0) = f i j
/-- .. so far -/
def LeadTo (f g : Nat → Nat → Int) (ps : List Nat) : Prop := ∀ i j, i < ps.length → j < ps.length → g (ps.getD i 0) (ps.getD j 0) = f i j
def Goes (f g : Nat → Nat → Int) (ps : List Nat) (x : Nat) : Prop := ∀ k, k < ps.length → g (ps.getD k 0) x = f k ps.length
theorem getD_snoc_lt {ps : List Nat} {x i : Nat} (h : i < ps.length) : (ps ++ [x]).getD i 0 = ps.getD i 0 := by
  rw [List.getD_eq_getElem?_getD, List.getD_eq_getElem?_getD, List.getElem?_append_left h]
theorem getD_snoc_last {ps : List Nat} {x : Nat} : (ps ++ [x]).getD ps.length 0 = x := by
  rw [List.getD_eq_getElem?_getD, List.getElem?_append_right (Nat.le_refl _)]
  simp
theorem getD_lt {n i : Nat} {ps : List Nat} (h : Part n ps) (hi : i < ps.length) : ps.getD i 0 < n := by
  rw [List.getD_eq_getElem?_getD, List.getElem?_eq_getElem hi]
  exact h.lt _ (List.getElem_mem hi)
theorem leadTo_snoc {n x : Nat} {f g : Nat → Nat → Int} {ps : List Nat} (hf : Skew n f) (hg : Skew n g) (hP : Part n ps) (hl : ps.length < n) (hx : x < n) (h : LeadTo f g ps) (hG : Goes f g ps x) : LeadTo f g (ps ++ [x]) := fun i j hi hj => by
  rw [List.length_append, List.length_singleton] at hi hj
  by_cases h1 : i < ps.length
  · rw [getD_snoc_lt h1]
    by_cases h2 : j < ps.length
    · rw [getD_snoc_lt h2]
      exact h i j h1 h2
    · have : j = ps.length := by omega
      subst this
      rw [getD_snoc_last]
      exact hG i h1
  · have : i = ps.length := by omega
    subst this
    rw [getD_snoc_last]
    by_cases h2 : j < ps.length
    · rw [getD_snoc_lt h2, hg x _ hx (getD_lt hP h2), hG j h2, ← hf _ _ hl (by omega)]
    · have : j = ps.length := by omega
      subst this
      rw [getD_snoc_last]
      have a1 := hg x x hx hx
      have a2 := hf ps.length ps.length hl hl
      omega
theorem lead_prefix {n x : Nat} {f g : Nat → Nat → Int} {ps qs : List Nat} (hl : qs.length = n) (hp : ps ++ [x] <+: qs) (h : Lead n f g qs) : Goes f g ps x := fun k hk => by
  obtain ⟨r, rfl⟩ := hp
  have hlen : ps.length < n := by
    rw [← hl, List.length_append, List.length_append, List.length_singleton]
    omega
  have := h k ps.length (by omega) hlen
  have e1 : ((ps ++ [x]) ++ r).getD k 0 = ps.getD k 0 := by
    rw [List.getD_eq_getElem?_getD, List.getElem?_append_left (by simp; omega), ← List.getD_eq_getElem?_getD, getD_snoc_lt hk]
  have e2 : ((ps ++ [x]) ++ r).getD ps.length 0 = x := by
    rw [List.getD_eq_getElem?_getD, List.getElem?_append_left (by simp), ← List.getD_eq_getElem?_getD, getD_snoc_last]
  rw [e1, e2] at this
  exact this
/-- the first of the names behind ps that lead from f to g -/
noncomputable def firstN (n : Nat) (f g : Nat → Nat → Int) (d : Nat) (ps : List Nat) : Option (List Nat) := (comp n d ps).find? fun qs => dec (Lead n f g qs)
theorem firstN_zero {n : Nat} {f g : Nat → Nat → Int} {ps : List Nat} (hl : ps.length = n) (h : LeadTo f g ps) : firstN n f g 0 ps = some ps := by
  have : dec (Lead n f g ps) = true := dec_true fun i j hi hj => h i j (by omega) (by omega)
  show [ps].find? _ = _
  rw [List.find?_cons, this]
theorem firstN_succ {n d : Nat} {f g : Nat → Nat → Int} {ps : List Nat} (hP : Part n ps) (hl : ps.length + (d + 1) = n) : firstN n f g (d + 1) ps = (List.range n).findSome? fun x => if dec (x ∉ ps ∧ Goes f g ps x) = true then firstN n f g d (ps ++ [x]) else none := by
  show ((ext n ps).flatMap (comp n d)).find? _ = _
  rw [List.find?_flatMap]
  unfold ext
  rw [findSome_fm]
  have key : ∀ x ∈ List.range n, (if decide (x ∉ ps) = true then (comp n d (ps ++ [x])).find? (fun qs => dec (Lead n f g qs)) else none) = if dec (x ∉ ps ∧ Goes f g ps x) = true then firstN n f g d (ps ++ [x]) else none := fun x hx => by
    by_cases h1 : x ∉ ps
    · rw [if_pos (decide_eq_true h1)]
      by_cases h2 : Goes f g ps x
      · rw [if_pos (dec_true ⟨h1, h2⟩)]; rfl
      · rw [if_neg (fun z => h2 (of_dec z).2)]
        refine List.find?_eq_none.mpr fun qs hq => ?_
        obtain ⟨q1, q2, q3⟩ := comp_part (hP.snoc (List.mem_range.mp hx) h1) hq
        rw [dec_false fun hL => h2 (lead_prefix (by rw [q2]; simp; omega) q3 hL)]
        exact Bool.false_ne_true
    · rw [if_neg (by simpa using h1), if_neg (fun z => h1 (of_dec z).1)]
  exact findSome_congr key
where
  findSome_congr {α β : Type} {l : List α} {p q : α → Option β} (h : ∀ x ∈ l, p x = q x) : l.findSome? p = l.findSome? q := by
    induction l with
    | nil => rfl
    | cons a r ih =>
      rw [List.findSome?_cons, List.findSome?_cons, h a List.mem_cons_self, ih fun x hx => h x (List.mem_cons_of_mem _ hx)]
theorem findSome_none {α β : Type} {p : α → Option β} : ∀ {l : List α}, (∀ x ∈ l, p x = none) → l.findSome? p = none
  | [], _ => rfl
  | a :: r, h => by
    rw [List.findSome?_cons, h a List.mem_cons_self]
    exact findSome_none fun x hx => h x (List.mem_cons_of_mem _ hx)
/-- the i-th is the first that gives anything -/
theorem findSome_at {β : Type} {p : Nat → Option β} {b : β} : ∀ {n i s : Nat}, i < n → (∀ j, j < i → p (s + j) = none) → p (s + i) = some b → ((List.range' s n).findSome? p) = some b
  | 0, i, s, h, _, _ => absurd h (Nat.not_lt_zero _)
  | n + 1, 0, s, _, _, h => by
    rw [List.range'_succ, List.findSome?_cons, show p s = some b from h]
  | n + 1, i + 1, s, h, h1, h2 => by
    have h0 := h1 0 (by omega)
    rw [List.range'_succ, List.findSome?_cons, show p s = none from h0]
    exact findSome_at (n := n) (i := i) (s := s + 1) (by omega) (fun j hj => by have := h1 (j + 1) (by omega); rwa [show s + 1 + j = s + (j + 1) by omega]) (by rwa [show s + 1 + i = s + (i + 1) by omega])
theorem findSome_range {β : Type} {p : Nat → Option β} {b : β} {n i : Nat} (h : i < n) (h1 : ∀ j, j < i → p j = none) (h2 : p i = some b) : (List.range n).findSome? p = some b := by
  rw [List.range_eq_range']
  exact findSome_at (s := 0) h (fun j hj => by rw [Nat.zero_add]; exact h1 j hj) (by rw [Nat.zero_add]; exact h2)
end AT

/-! ## alike -/
namespace AT
open PySem PySem.Spec PyProof.Rows L2 Evl
def sp_goes_on (K : Frag) : Sp := fun vs H Q _ => ∃ (a b c : Addr) (n : Nat) (f g : Nat → Nat → Int) (ps : List Nat) (x : Nat), vs = [.ref a, .ref b, .ref c, .int (x : Int)] ∧ LLI K H a (Fm n f) ∧ LLI K H b (Fm n g) ∧ LI K H c (nI ps) ∧ Part n ps ∧ ps.length < n ∧ x < n ∧ n ≤ 100 ∧ ∀ H', Ex H H' → Q (.bl (dec (Goes f g ps x))) H'
/-- what comes back: None, or the list that was handed in, or a new one -/
def RNames (c : Addr) (o : Option (List Nat)) : R3 := fun H1 H2 v => match o with
  | none => v = .non
  | some qs => ∃ p, v = .ref p ∧ H2 p = some (.lst ((nI qs).map V.int)) ∧ (p = c ∨ H1 p = none)
def sp_first_names (K : Frag) (d : Nat) : Sp := fun vs H Q _ => ∃ (a b c : Addr) (n : Nat) (f g : Nat → Nat → Int) (ps : List Nat), vs = [.ref a, .ref b, .ref c] ∧ LLI K H a (Fm n f) ∧ LLI K H b (Fm n g) ∧ H c = some (.lst ((nI ps).map V.int)) ∧ Part n ps ∧ LeadTo f g ps ∧ ps.length + d = n ∧ n ≤ 100 ∧ Skew n f ∧ Skew n g ∧ ∀ v H', Ex H H' → RNames c (firstN n f g d ps) H H' v → Q v H'
/-- None, or a new list of the names -/
def RNew (o : Option (List Nat)) : R3 := fun H1 H2 v => match o with
  | none => v = .non
  | some qs => ∃ p, v = .ref p ∧ OLI H1 H2 p (nI qs)
theorem mon_RNew {o : Option (List Nat)} : Mon (RNew o) := by
  cases o with
  | none => exact ⟨fun _ h => h, fun _ h => h⟩
  | some qs => exact ⟨fun e ⟨p, h, q⟩ => ⟨p, h, q.mono e⟩, fun e ⟨p, h, q⟩ => ⟨p, h, q.back e⟩⟩
noncomputable def alikeV (n m : Nat) (f g : Nat → Nat → Int) : Option (List Nat) := if n = m then firstN n f g n [] else none
def sp_alike (K : Frag) : Sp := fun vs H Q _ => ∃ (a b : Addr) (n m : Nat) (f g : Nat → Nat → Int), vs = [.ref a, .ref b] ∧ LLI K H a (Fm n f) ∧ LLI K H b (Fm m g) ∧ FormOf n f ∧ FormOf m g ∧ ∀ v H', Ex H H' → RNew (alikeV n m f g) H H' v → Q v H'
theorem inV_nI (x : Nat) (ps : List Nat) : inV (.int (x : Int)) ((nI ps).map V.int) = decide (x ∈ ps) := by
  unfold inV nI
  induction ps with
  | nil => rfl
  | cons a r ih =>
    rw [List.map_cons, List.map_cons, List.any_cons, ih]
    show ((a : Int) == (x : Int) || decide (x ∈ r)) = decide (x ∈ a :: r)
    by_cases e : a = x
    · subst e; simp
    · have e1 : ((a : Int) == (x : Int)) = false := by simpa using (show ¬ (a : Int) = (x : Int) by omega)
      rw [e1, Bool.false_or]
      simp only [List.mem_cons]
      by_cases h : x ∈ r
      · simp [h]
      · have : ¬ x = a := fun z => e z.symm
        simp [h, this]
theorem flat_ints (xs : List Int) : (xs.map V.int).all flatV = true := by simp [flatV]
section
variable {P : Program} {w : World} {K : Frag} {mg : Str → Option Value} {base : Heap} {k : Nat}
theorem ev_nin {σ : St} {H : Hp} {c : Addr} {x : Nat} {ps : List Nat} {ta tb : TE} (ha : Ev ta σ H (.int (x : Int))) (hb : Ev tb σ H (.ref c)) (hL : LI K H c (nI ps)) : Ev (tOp (rIn K true) ta tb) σ H (.bl (decide (x ∉ ps))) :=
  ev_is (ev_op ha hb (rv_niL hL rfl (flat_ints _))) (by rw [inV_nI]; by_cases h : x ∈ ps <;> simp [h])
/-- xs + [x] -/
theorem el_snoc {σ : St} {H : Hp} {c : Addr} {x : Nat} {ps : List Nat} {ta tb : TE} (ha : Ev ta σ H (.ref c)) (hc : H c = some (.lst ((nI ps).map V.int))) (hb : Ev tb σ H (.int (x : Int))) (hl : ps.length ≤ 1000) : EvL (tOp rCat ta (tLst (tCons tb tNil))) σ H ((nI (ps ++ [x])).map V.int) := fun H1 e Q q =>
  ha H1 e _ fun H2 e2 => (el_lst (ea_cons hb ea_nil) (by show 1 ≤ 100000; decide) : EvL (tLst (tCons tb tNil)) σ H [.int (x : Int)]) H2 (e.trans e2) _ fun r H3 hr e3 hr3 => ⟨c, r, _, _, rfl, rfl, ((e.trans e2).trans e3) _ _ hc, hr3, by
    rw [List.length_map, nI_len]
    exact sz_of (by show ps.length + 1 ≤ 100000; omega), fun p hp => q p _ (fresh_back (e2.trans e3) hp) ((e2.trans e3).trans (Ex.new hp)) (by
      rw [upd_same]
      unfold nI
      rw [List.map_append, List.map_append]
      rfl)⟩
end
end AT

/-! ## all names, by the law -/
namespace AT
open PySem PySem.Spec PyProof.Rows L2 Evl
/-- a tracked list of tracked lists of ints -/
def TL (H : Hp) (a : Addr) (M : List (List Int)) : Prop := ∃ as : List Addr, H a = some (.lst (as.map V.ref)) ∧ Paired (fun x r => H x = some (.lst (r.map V.int))) as M
theorem TL.mono {H H' : Hp} {a : Addr} {M : List (List Int)} (e : Ex H H') (h : TL H a M) : TL H' a M := by
  obtain ⟨as, h1, h2⟩ := h
  exact ⟨as, e _ _ h1, paired_mono h2 fun _ _ q => e _ _ q⟩
theorem TL.lli {K : Frag} {H : Hp} {a : Addr} {M : List (List Int)} (h : TL H a M) : LLI K H a M := by
  obtain ⟨as, h1, h2⟩ := h
  exact ⟨as, sq_of h1, paired_mono h2 fun _ _ q => sq_of q⟩
theorem OLLI.tl {H0 H : Hp} {a : Addr} {M : List (List Int)} (h : OLLI H0 H a M) : TL H a M := by
  obtain ⟨as, _, h1, _, h2⟩ := h
  exact ⟨as, h1, paired_mono h2 fun _ _ q => q.2⟩
theorem ext_len (n : Nat) (ps : List Nat) : (ext n ps).length ≤ n := by
  unfold ext
  rw [List.length_map]
  exact filt_len _ n
theorem flat_len {α β : Type} {g : α → List β} {c : Nat} : ∀ l : List α, (∀ x, x ∈ l → (g x).length ≤ c) → (l.flatMap g).length ≤ l.length * c
  | [], _ => by simp
  | a :: r, h => by
    have h1 := h a List.mem_cons_self
    have h2 := flat_len r fun x hx => h x (List.mem_cons_of_mem _ hx)
    rw [List.flatMap_cons, List.length_append, List.length_cons, Nat.add_mul]
    omega
theorem allAt_len {n : Nat} (h : n ≤ 6) : ∀ t, t ≤ 6 → (allAt n t).length ≤ 6 ^ t
  | 0, _ => by simp [allAt]
  | t + 1, ht => by
    have h1 := flat_len (g := ext n) (c := 6) (allAt n t) fun x _ => Nat.le_trans (ext_len n x) h
    have h2 := allAt_len h t (by omega)
    show ((allAt n t).flatMap (ext n)).length ≤ 6 ^ (t + 1)
    rw [Nat.pow_succ]
    exact Nat.le_trans h1 (Nat.mul_le_mul_right 6 h2)
theorem pow6 {t : Nat} (h : t ≤ 6) : 6 ^ t ≤ 46656 := Nat.le_trans (Nat.pow_le_pow_right (by decide) h) (by decide)
theorem allAt_small {n t : Nat} (h : n ≤ 6) (ht : t ≤ 6) : (allAt n t).length ≤ 46656 := Nat.le_trans (allAt_len h t ht) (pow6 ht)
theorem mem_allAt {n t : Nat} {qs : List Nat} (h : qs ∈ allAt n t) : Part n qs ∧ qs.length = t := by
  rw [allAt_comp] at h
  obtain ⟨h1, h2, _⟩ := comp_part part_nil h
  exact ⟨h1, by rw [h2]; simp⟩
theorem Part.names {n : Nat} {qs : List Nat} (h : Part n qs) (hl : qs.length = n) : Names n qs := perm_of_sub h.nd (fun x hx => List.mem_range.mpr (h.lt x hx)) (by rw [List.length_range]; omega)
theorem names_allAt {n : Nat} {qs : List Nat} (h : qs ∈ allAt n n) : Names n qs := by
  obtain ⟨h1, h2⟩ := mem_allAt h
  exact h1.names h2
/-- renamed so it is the other one just where the names lead there -/
theorem lead_ren {n : Nat} {f g : Nat → Nat → Int} {qs : List Nat} (h : Names n qs) : Fm n (renF f qs) = Fm n g ↔ Lead n f g qs := by
  constructor
  · intro e i j hi hj
    obtain ⟨x, hx, hxn⟩ := h.lt hi
    obtain ⟨y, hy, hyn⟩ := h.lt hj
    have := (fm_inj e).2 x y hxn hyn
    unfold renF at this
    rw [h.ix_at hx, h.ix_at hy] at this
    rw [List.getD_eq_getElem?_getD, List.getD_eq_getElem?_getD, hx, hy]
    exact this.symm
  · intro hL
    refine fm_ext fun x y hx hy => ?_
    have := hL _ _ (h.ix hx) (h.ix hy)
    rw [List.getD_eq_getElem?_getD, List.getD_eq_getElem?_getD, h.at_ix hx, h.at_ix hy] at this
    exact this.symm
def sp__law_all_names : Sp := fun vs H Q _ => ∃ n : Nat, vs = [.int (n : Int)] ∧ n ≤ 6 ∧ ∀ H' p, Ex H H' → H p = none → TL H' p ((allAt n n).map nI) → Q (.ref p) H'
section
variable {P : Program} {w : World} {K : Frag} {mg : Str → Option Value} {base : Heap} {k : Nat}
/-- [names + [x] for x in range(n) if x not in names] -/
theorem er_ext {σ : St} {H : Hp} {c : Addr} {n : Nat} {ps : List Nat} {ta : TA} {tn : TE} {j : Nat} {ws : List Nat} (ha : EvA ta σ H [.int (n : Int)]) (hn : n ≤ 100) (hw : ∀ x, wipe ((wipe σ ws).set j (some x)) ws = wipe σ ws)
    (hc : H c = some (.lst ((nI ps).map V.int))) (hl : ps.length ≤ 1000) (hv : ∀ (i : Nat) H1, Ev tn ((wipe σ ws).set j (some (.int (i : Int)))) H1 (.ref c)) (hj : ∀ i : Nat, ((wipe σ ws).set j (some (.int (i : Int))))[j]? = some (some (.int (i : Int)))) :
    Er (tLc (iRng1 ta) (gName j) (tTest (tOp (rIn K true) (tVar j) tn)) (tOp rCat tn (tLst (tCons (tVar j) tNil))) ws) σ H (fun H1 H2 v => ∃ p, v = .ref p ∧ H1 p = none ∧ TL H2 p ((ext n ps).map nI)) := fun H1 e Q q => by
  have h := er_lcR (te := tOp rCat tn (tLst (tCons (tVar j) tNil))) (t := tTest (tOp (rIn K true) (tVar j) tn)) (fun i => decide (i ∉ ps)) (fun i => RL (nI (ps ++ [i]))) (fun i => mon'_RL) ha (by omega) hw
    (fun i H2 e2 _ => et_test (ev_nin (ev_var (hj i)) (hv i H2) (sq_of (e2 _ _ hc))))
    (fun i H2 e2 _ _ => er_of_evl (el_snoc (hv i H2) (e2 _ _ hc) (ev_var (hj i)) hl))
  refine h H1 e Q fun v H2 e2 ⟨p, vs, hv, hp, hp2, hP⟩ => q v H2 e2 ⟨p, hv, hp, ?_⟩
  rw [Int.toNat_natCast] at hP
  have key : ∀ {vs : List V} {idx : List Nat}, Paired (fun v i => RL (nI (ps ++ [i])) H1 H2 v) vs idx → ∃ as : List Addr, vs = as.map V.ref ∧ Paired (fun x r => H2 x = some (.lst (r.map V.int))) as ((idx.map fun x => ps ++ [x]).map nI) := fun {vs idx} hP => by
    induction hP with
    | nil => exact ⟨[], rfl, .nil⟩
    | cons r t ih =>
      obtain ⟨x, hx, h1, h2⟩ := r
      obtain ⟨as, ha, hb⟩ := ih
      subst hx; subst ha
      exact ⟨x :: as, rfl, .cons h2 hb⟩
  obtain ⟨as, ha, hb⟩ := key hP
  subst ha
  exact ⟨as, hp2, hb⟩
end
end AT

/-! ## names in order -/
namespace AT
open PySem
theorem ltI_self : ∀ xs : List Int, ltI xs xs = false
  | [] => rfl
  | x :: xs => by
    show PySem.W.listLt (x :: xs) (x :: xs) = false
    rw [PySem.W.listLt, if_pos rfl]
    exact ltI_self xs
theorem ltI_pre (ps a b : List Int) : ltI (ps ++ a) (ps ++ b) = ltI a b := by
  induction ps with
  | nil => rfl
  | cons p ps ih =>
    show PySem.W.listLt (p :: (ps ++ a)) (p :: (ps ++ b)) = _
    rw [PySem.W.listLt, if_pos rfl]
    exact ih
theorem ltI_asym : ∀ {a b : List Int}, ltI a b = true → ltI b a = false
  | [], [], h => by cases h
  | [], _ :: _, _ => rfl
  | _ :: _, [], h => by cases h
  | x :: xs, y :: ys, h => by
    have h : PySem.W.listLt (x :: xs) (y :: ys) = true := h
    show PySem.W.listLt (y :: ys) (x :: xs) = false
    rw [PySem.W.listLt] at h ⊢
    by_cases e : x = y
    · rw [if_pos e] at h
      rw [if_pos e.symm]
      exact ltI_asym h
    · rw [if_neg e] at h
      rw [if_neg (fun z => e z.symm)]
      have h : decide (x < y) = true := h
      show decide (y < x) = false
      rw [decide_eq_true_eq] at h
      rw [decide_eq_false_iff_not]
      omega
/-- those that go on from ps stand in order -/
theorem comp_sorted {n : Nat} : ∀ (d : Nat) {ps : List Nat}, Part n ps → (comp n d ps).Pairwise fun a b => ltI (nI a) (nI b) = true
  | 0, ps, _ => List.pairwise_singleton _ _
  | d + 1, ps, hp => by
    show ((ext n ps).flatMap (comp n d)).Pairwise _
    rw [List.pairwise_flatMap]
    refine ⟨fun qs hqs => ?_, ?_⟩
    · obtain ⟨x, hx, hn, rfl⟩ := mem_ext.mp hqs
      exact comp_sorted d (hp.snoc hx hn)
    · unfold ext
      rw [List.pairwise_map]
      have h1 : ((List.range n).filter fun x => decide (x ∉ ps)).Pairwise (· < ·) := List.Pairwise.filter _ List.pairwise_lt_range
      refine List.Pairwise.imp_of_mem (fun {x y} hx hy hlt => ?_) h1
      intro a ha b hb
      rw [List.mem_filter, List.mem_range, decide_eq_true_eq] at hx hy
      obtain ⟨s, rfl⟩ := (comp_part (hp.snoc hx.1 hx.2) ha).2.2
      obtain ⟨t, rfl⟩ := (comp_part (hp.snoc hy.1 hy.2) hb).2.2
      have e1 : nI (ps ++ [x] ++ s) = nI ps ++ ((x : Int) :: nI s) := by unfold nI; simp
      have e2 : nI (ps ++ [y] ++ t) = nI ps ++ ((y : Int) :: nI t) := by unfold nI; simp
      rw [e1, e2, ltI_pre]
      show PySem.W.listLt ((x : Int) :: nI s) ((y : Int) :: nI t) = true
      rw [PySem.W.listLt, if_neg (by omega)]
      show decide ((x : Int) < (y : Int)) = true
      rw [decide_eq_true_eq]
      omega
theorem find_sorted {α : Type} {R : α → α → Prop} {p : α → Bool} : ∀ {l : List α} {x y : α}, l.Pairwise R → l.find? p = some x → y ∈ l → p y = true → x = y ∨ R x y
  | [], _, _, _, h, _, _ => by cases h
  | a :: l, x, y, hR, h, hy, hp => by
    rw [List.pairwise_cons] at hR
    rw [List.find?_cons] at h
    by_cases ha : p a = true
    · rw [ha] at h
      have h : some a = some x := h
      cases h
      rcases List.mem_cons.mp hy with rfl | hy
      · exact .inl rfl
      · exact .inr (hR.1 y hy)
    · have ha' : p a = false := by simpa using ha
      rw [ha'] at h
      rcases List.mem_cons.mp hy with rfl | hy
      · exact absurd hp ha
      · exact find_sorted hR.2 h hy hp
theorem names_part {n : Nat} {ps : List Nat} (h : Names n ps) : Part n ps := ⟨h.nd, fun x hx => h.mem.mp hx⟩
theorem mem_comp_pre {n : Nat} : ∀ (d : Nat) {ps qs : List Nat}, Part n qs → ps <+: qs → qs.length = ps.length + d → qs ∈ comp n d ps
  | 0, ps, qs, _, hp, hl => by
    have e : ps = qs := hp.eq_of_length (by omega)
    subst e
    exact List.mem_singleton.mpr rfl
  | d + 1, ps, qs, hq, ⟨t, ht⟩, hl => by
    show qs ∈ (ext n ps).flatMap (comp n d)
    cases t with
    | nil =>
      rw [List.append_nil] at ht
      rw [ht] at hl
      omega
    | cons x t =>
      have hx : x ∈ qs := by rw [← ht]; simp
      have hnd : (ps ++ x :: t).Nodup := by rw [ht]; exact hq.nd
      have hxp : x ∉ ps := fun z => by
        rw [List.nodup_append] at hnd
        exact hnd.2.2 x z x List.mem_cons_self rfl
      exact List.mem_flatMap.mpr ⟨ps ++ [x], mem_ext.mpr ⟨x, hq.lt x hx, hxp, rfl⟩, mem_comp_pre d hq ⟨t, by rw [← ht]; simp⟩ (by simp; omega)⟩
theorem mem_comp {n : Nat} {ps : List Nat} (h : Names n ps) : ps ∈ comp n n [] := mem_comp_pre n (names_part h) ⟨ps, rfl⟩ (by rw [h.len]; simp)
theorem names_getD {n i : Nat} {ps : List Nat} (h : Names n ps) (hi : i < n) : ps.getD i 0 < n ∧ ps.idxOf (ps.getD i 0) = i := by
  obtain ⟨x, h1, h2⟩ := h.lt hi
  have e : ps.getD i 0 = x := by rw [List.getD_eq_getElem?_getD, h1]; rfl
  rw [e]
  exact ⟨h2, h.ix_at h1⟩
theorem lead_self {n : Nat} {f : Nat → Nat → Int} {ps : List Nat} (h : Names n ps) : Lead n f (renF f ps) ps := fun i j hi hj => by
  unfold renF
  rw [(names_getD h hi).2, (names_getD h hj).2]
/-- the names the other way -/
def invN (n : Nat) (ps : List Nat) : List Nat := (List.range n).map fun i => ps.idxOf i
theorem idx_inj {n i j : Nat} {ps : List Nat} (h : Names n ps) (hi : i < n) (hj : j < n) (e : ps.idxOf i = ps.idxOf j) : i = j := by
  have h1 := h.at_ix hi
  have h2 := h.at_ix hj
  rw [e, h2] at h1
  injection h1 with h1
  exact h1.symm
theorem invN_names {n : Nat} {ps : List Nat} (h : Names n ps) : Names n (invN n ps) := by
  refine perm_of_sub ?_ (fun x hx => ?_) (by unfold invN; simp)
  · unfold invN
    rw [List.Nodup, List.pairwise_map]
    refine List.Pairwise.imp_of_mem (fun {i j} hi hj hne e => hne (idx_inj h (List.mem_range.mp hi) (List.mem_range.mp hj) e)) List.nodup_range
  · obtain ⟨i, hi, rfl⟩ := List.mem_map.mp hx
    exact List.mem_range.mpr (h.ix (List.mem_range.mp hi))
theorem invN_getD {n i : Nat} {ps : List Nat} (hi : i < n) : (invN n ps).getD i 0 = ps.idxOf i := by
  unfold invN
  rw [List.getD_eq_getElem?_getD, List.getElem?_map, List.getElem?_range hi]
  rfl
theorem lead_inv {n : Nat} {f : Nat → Nat → Int} {ps : List Nat} : Lead n (renF f ps) f (invN n ps) := fun i j hi hj => by
  rw [invN_getD hi, invN_getD hj]
  rfl
/-- alike finds the first names that lead -/
theorem alikeV_some {n : Nat} {f g : Nat → Nat → Int} {ps : List Nat} (h : Names n ps) (hl : Lead n f g ps) : ∃ qs, alikeV n n f g = some qs ∧ Names n qs ∧ Lead n f g qs ∧ ltI (nI ps) (nI qs) = false := by
  unfold alikeV firstN
  rw [if_pos rfl]
  cases e : (comp n n []).find? fun qs => dec (Lead n f g qs) with
  | none =>
    have := List.find?_eq_none.mp e ps (mem_comp h)
    exact absurd (dec_true hl) this
  | some qs =>
    have h1 := List.mem_of_find?_eq_some e
    have h2 := List.find?_some e
    have hc := comp_part part_nil h1
    refine ⟨qs, rfl, Part.names hc.1 (by have := hc.2.1; simpa using this), of_dec h2, ?_⟩
    rcases find_sorted (comp_sorted n part_nil) e (mem_comp h) (dec_true hl) with rfl | h
    · exact ltI_self _
    · exact ltI_asym h
/-! ### turning and renaming -/
theorem renF_ok {n : Nat} {f : Nat → Nat → Int} {ps : List Nat} (hf : FormOf n f) (h : Names n ps) : FormOf n (renF f ps) := ⟨hf.1, hf.2.1, fun i j hi hj => hf.2.2 _ _ (h.ix hi) (h.ix hj)⟩
theorem turn_ren {n b : Nat} {f : Nat → Nat → Int} {ps : List Nat} (h : Names n ps) (hb : b < n) : Fm n (turnF (renF f ps) (ps.getD b 0)) = Fm n (renF (turnF f b) ps) := fm_ext fun i j hi hj => by
  have hq := names_getD h hb
  have e : ∀ {x}, x < n → (x = ps.getD b 0 ↔ ps.idxOf x = b) := fun {x} hx => ⟨fun z => by rw [z]; exact hq.2, fun z => idx_inj h hx hq.1 (by rw [z, hq.2])⟩
  have l : turnF (renF f ps) (ps.getD b 0) i j = if i = ps.getD b 0 ∨ j = ps.getD b 0 then 0 - f (ps.idxOf i) (ps.idxOf j) else f (ps.idxOf i) (ps.idxOf j) + thr (f (ps.idxOf i) (ps.idxOf (ps.getD b 0))) (f (ps.idxOf (ps.getD b 0)) (ps.idxOf j)) := rfl
  have r : renF (turnF f b) ps i j = if ps.idxOf i = b ∨ ps.idxOf j = b then 0 - f (ps.idxOf i) (ps.idxOf j) else f (ps.idxOf i) (ps.idxOf j) + thr (f (ps.idxOf i) b) (f b (ps.idxOf j)) := rfl
  rw [l, r, hq.2]
  by_cases q : i = ps.getD b 0 ∨ j = ps.getD b 0
  · have q2 : ps.idxOf i = b ∨ ps.idxOf j = b := q.elim (fun z => .inl ((e hi).mp z)) fun z => .inr ((e hj).mp z)
    rw [if_pos q, if_pos q2]
  · have q2 : ¬ (ps.idxOf i = b ∨ ps.idxOf j = b) := fun z => q (z.elim (fun z => .inl ((e hi).mpr z)) fun z => .inr ((e hj).mpr z))
    rw [if_neg q, if_neg q2]
theorem thr_zero_r (a : Int) : thr a 0 = 0 := by
  unfold thr
  rw [if_neg (by omega), if_neg (by omega)]
theorem thr_zero_l (a : Int) : thr 0 a = 0 := by
  unfold thr
  rw [if_neg (by omega), if_neg (by omega)]
theorem turn_col {b o i : Nat} {f : Nat → Nat → Int} (hne : b ≠ o) (h1 : f b o = 0) (h2 : f o b = 0) : turnF f b i o = f i o ∧ turnF f b o i = f o i := by
  unfold turnF
  constructor
  · by_cases q : i = b
    · rw [if_pos (.inl q), q, h1]; rfl
    · rw [if_neg (by rintro (z | z); exact q z; exact hne z.symm), h1, thr_zero_r]; omega
  · by_cases q : i = b
    · rw [if_pos (.inr q), q, h2]; rfl
    · rw [if_neg (by rintro (z | z); exact hne z.symm; exact q z), h2, thr_zero_l]; omega
theorem turn_comm {n b o : Nat} {f : Nat → Nat → Int} (h1 : f b o = 0) (h2 : f o b = 0) : Fm n (turnF (turnF f b) o) = Fm n (turnF (turnF f o) b) := by
  by_cases hne : b = o
  · rw [hne]
  · refine fm_ext fun i j _ _ => ?_
    have c1 := fun i => turn_col (i := i) hne h1 h2
    have c2 := fun i => turn_col (i := i) (Ne.symm hne) h2 h1
    have l : turnF (turnF f b) o i j = if i = o ∨ j = o then 0 - turnF f b i j else turnF f b i j + thr (turnF f b i o) (turnF f b o j) := rfl
    have r : turnF (turnF f o) b i j = if i = b ∨ j = b then 0 - turnF f o i j else turnF f o i j + thr (turnF f o i b) (turnF f o b j) := rfl
    rw [l, r, (c1 i).1, (c1 j).2, (c2 i).1, (c2 j).2]
    by_cases p : i = o ∨ j = o
    · rw [if_pos p]
      by_cases q : i = b ∨ j = b
      · rw [if_pos q]
        unfold turnF
        rw [if_pos q, if_pos p]
      · rw [if_neg q]
        unfold turnF
        rw [if_neg q, if_pos p]
        have : thr (f i b) (f b j) = 0 := by
          rcases p with rfl | rfl
          · rw [h2, thr_zero_l]
          · rw [h1, thr_zero_r]
        omega
    · rw [if_neg p]
      by_cases q : i = b ∨ j = b
      · rw [if_pos q]
        unfold turnF
        rw [if_pos q, if_neg p]
        have : thr (f i o) (f o j) = 0 := by
          rcases q with rfl | rfl
          · rw [h1, thr_zero_l]
          · rw [h2, thr_zero_r]
        omega
      · rw [if_neg q]
        unfold turnF
        rw [if_neg q, if_neg p]
        omega
theorem nat9 {a b : Int} (h1 : a.natAbs ≤ 9) (h2 : b.natAbs ≤ 9) : (a * b).natAbs ≤ 81 := by
  rw [Int.natAbs_mul]
  exact Nat.mul_le_mul h1 h2
theorem thr9 {a b : Int} (h1 : a.natAbs ≤ 9) (h2 : b.natAbs ≤ 9) : (thr a b).natAbs ≤ 81 := by
  have := nat9 h1 h2
  unfold thr
  split
  · exact this
  · split
    · omega
    · omega
theorem turn9 {n k : Nat} {f : Nat → Nat → Int} (hf : FormOf n f) (hk : k < n) (h9 : ∀ i j, i < n → j < n → f i j ≤ 9) : FormOf n (turnF f k) := ⟨hf.1, hf.2.1, fun i j hi hj => ⟨turnF_skew hf.skew hk i j hi hj, by
  have hb : ∀ i j, i < n → j < n → (f i j).natAbs ≤ 9 := fun i j hi hj => by
    have h1 := h9 i j hi hj
    have h2 := h9 j i hj hi
    have h3 := (hf.2.2 i j hi hj).1
    omega
  have h1 := hb i j hi hj
  have h2 := thr9 (hb i k hi hk) (hb k j hk hj)
  unfold turnF
  split <;> omega⟩⟩
end AT

/-! ## renamed, alike: their promises at forms -/
namespace AT
open PySem PySem.Spec PyProof.Rows L2 Evl
section
variable {P : Program} {w : World} {K : Frag} {H : Hp} {σ : St} {ta tb t1 t2 : TE} {C1 C2 : Addr} {R : R3} {E : XK}
theorem ev_opR1 {r : R2} {y z : V} (h1 : Er ta σ H R) (h2 : Ev tb σ H y) (hr : ∀ v H1 H2, Ex H H1 → Ex H1 H2 → R H1 H2 v → RV r v y H2 z) : Ev (tOp r ta tb) σ H z := fun H1 e Q q =>
  h1 H1 e _ fun v H2 e2 hv => h2 H2 (e.trans e2) _ fun H3 e3 => hr v H1 H2 e e2 hv H3 e3 Q fun H4 e4 => q H4 ((e2.trans e3).trans e4)
theorem ev_opR2 {r : R2} {x z : V} (h1 : Ev ta σ H x) (h2 : Er tb σ H R) (hr : ∀ v H1 H2, Ex H H1 → Ex H1 H2 → R H1 H2 v → RV r x v H2 z) : Ev (tOp r ta tb) σ H z := fun H1 e Q q =>
  h1 H1 e _ fun H2 e2 => h2 H2 (e.trans e2) _ fun v H3 e3 hv => hr v H2 H3 (e.trans e2) e3 hv H3 (Ex.refl _) Q fun H4 e4 => q H4 ((e2.trans e3).trans e4)
theorem renF_ext {n : Nat} {f g : Nat → Nat → Int} {ps : List Nat} (h : Names n ps) (hf : ∀ i j, i < n → j < n → f i j = g i j) : Fm n (renF f ps) = Fm n (renF g ps) := fm_ext fun i j hi hj => hf _ _ (h.ix hi) (h.ix hj)
theorem spr_renamed {a b : Addr} {n : Nat} {f : Nat → Nat → Int} {ps : List Nat} (hf : FormOf n f) (hps : Names n ps) (hM : LLI K H a (Fm n f)) (hN : LI K H b (nI ps)) : SpR (sp_renamed K C1 C2) [.ref a, .ref b] H (RM (Fm n (renF f ps))) := fun H1 e1 Q q E => by
  refine ⟨a, b, _, _, rfl, hM.mono e1, small_fm (by have := hf.2.1; omega), hN.mono e1, by rw [nI_len, hps.len]; have := hf.2.1; omega, fun hF => absurd (fmI hf) hF, fun n' f' e hf' => ?_⟩
  obtain ⟨rfl, ee⟩ := fm_inj e
  refine ⟨fun z => absurd (isNames_iff.mpr ⟨ps, hps, rfl⟩) z, fun qs hqs eqs H' p e hO => q _ H' e ⟨p, rfl, ?_⟩⟩
  have : ps = qs := List.map_inj_right (f := fun x : Nat => (x : Int)) (fun a b h => by omega) |>.mp eqs
  subst this
  rw [renF_ext hps ee]
  exact hO
theorem er_renamedR2 {n : Nat} {f : Nat → Nat → Int} {ps : List Nat} (hf : FormOf n f) (hps : Names n ps) (h1 : Er t1 σ H (RM (Fm n f))) (h2 : Er t2 σ H (RL (nI ps))) : Er (tCall (sp_renamed K C1 C2) [] E (tCons t1 (tCons t2 tNil))) σ H (RM (Fm n (renF f ps))) :=
  er_callR2 mon_RM h1 h2 fun v1 v2 G1 G2 G3 g1 g2 g3 ⟨c, hc, hOc⟩ ⟨d, hd, hOd⟩ => by
    subst hc; subst hd
    exact spr_renamed hf hps (hOc.lli.mono g3) (sq_of hOd.2)
theorem spr_ren {a b : Addr} {n : Nat} {f : Nat → Nat → Int} {ps : List Nat} (hn : n ≤ 100) (hps : Names n ps) (hM : LLI K H a (Fm n f)) (hN : LI K H b (nI ps)) : SpR (sp__law_renamed K) [.ref a, .ref b] H (RM (Fm n (renF f ps))) := fun H1 e1 Q q E =>
  ⟨a, b, n, f, ps, rfl, hM.mono e1, hN.mono e1, hps, hn, fun H' p e hO => q _ H' e ⟨p, rfl, hO⟩⟩
theorem er_renR {n : Nat} {b : Addr} {f : Nat → Nat → Int} {ps : List Nat} (hn : n ≤ 100) (hps : Names n ps) (h1 : Er t1 σ H (RM (Fm n f))) (h2 : Ev t2 σ H (.ref b)) (hN : LI K H b (nI ps)) : Er (tCall (sp__law_renamed K) [] E (tCons t1 (tCons t2 tNil))) σ H (RM (Fm n (renF f ps))) :=
  er_callR1 mon_RM h1 (ea_cons h2 ea_nil) fun v1 G1 G2 G3 g1 g2 g3 ⟨c, hc, hOc⟩ => by
    subst hc
    exact spr_ren hn hps (hOc.lli.mono g3) (hN.mono ((g1.trans g2).trans g3))
theorem er_ren {n : Nat} {a b : Addr} {f : Nat → Nat → Int} {ps : List Nat} (hn : n ≤ 100) (hps : Names n ps) (h1 : Ev t1 σ H (.ref a)) (hM : LLI K H a (Fm n f)) (h2 : Ev t2 σ H (.ref b)) (hN : LI K H b (nI ps)) : Er (tCall (sp__law_renamed K) [] E (tCons t1 (tCons t2 tNil))) σ H (RM (Fm n (renF f ps))) :=
  er_call mon_RM (ea_cons h1 (ea_cons h2 ea_nil)) (spr_ren hn hps hM hN)
theorem ev_likeRR {M N : List (List Int)} (h1 : Er t1 σ H (RM M)) (h2 : Er t2 σ H (RM N)) (hs : SmallM M) : Ev (tCall (sp__law_like K) [] E (tCons t1 (tCons t2 tNil))) σ H (.bl (decide (M = N))) :=
  ev_callR2 h1 h2 fun v1 v2 G1 G2 G3 g1 g2 g3 ⟨c, hc, hOc⟩ ⟨d, hd, hOd⟩ => by
    subst hc; subst hd
    exact spv_like (hOc.tll.mono g3) hOd.lli hs
end
end AT

/-! ## least names -/
namespace AT
open PySem
def leastM (n : Nat) (f : Nat → Nat → Int) : Mat := minL ((allAt n n).map fun ps => Fm n (renF f ps))
theorem allAt_ne {n : Nat} : allAt n n ≠ [] := fun e => by
  have : List.range n ∈ allAt n n := by rw [allAt_comp]; exact mem_comp (List.Perm.refl _)
  rw [e] at this
  cases this
theorem mem_allAt_iff {n : Nat} {ps : List Nat} : ps ∈ allAt n n ↔ Names n ps := ⟨names_allAt, fun h => by rw [allAt_comp]; exact mem_comp h⟩
theorem least_mem (n : Nat) (f : Nat → Nat → Int) : ∃ ps, Names n ps ∧ leastM n f = Fm n (renF f ps) := by
  have h : leastM n f ∈ (allAt n n).map fun ps => Fm n (renF f ps) := minL_mem (by simpa using allAt_ne)
  obtain ⟨ps, h1, h2⟩ := List.mem_map.mp h
  exact ⟨ps, names_allAt h1, h2.symm⟩
/-- names, then names -/
def thenN (n : Nat) (ps qs : List Nat) : List Nat := (List.range n).map fun t => qs.getD (ps.getD t 0) 0
theorem thenN_getD {n t : Nat} {ps qs : List Nat} (ht : t < n) : (thenN n ps qs).getD t 0 = qs.getD (ps.getD t 0) 0 := by
  unfold thenN
  rw [List.getD_eq_getElem?_getD, List.getElem?_map, List.getElem?_range ht]
  rfl
theorem names_inj {n i j : Nat} {ps : List Nat} (h : Names n ps) (hi : i < n) (hj : j < n) (e : ps.getD i 0 = ps.getD j 0) : i = j := by
  have h1 := (names_getD h hi).2
  rw [e, (names_getD h hj).2] at h1
  exact h1.symm
theorem thenN_names {n : Nat} {ps qs : List Nat} (h : Names n ps) (h2 : Names n qs) : Names n (thenN n ps qs) := by
  refine perm_of_sub ?_ (fun x hx => ?_) (by unfold thenN; simp)
  · unfold thenN
    rw [List.Nodup, List.pairwise_map]
    refine List.Pairwise.imp_of_mem (fun {i j} hi hj hne e => hne ?_) List.nodup_range
    have hi := List.mem_range.mp hi
    have hj := List.mem_range.mp hj
    exact names_inj h hi hj (names_inj h2 (names_getD h hi).1 (names_getD h hj).1 e)
  · obtain ⟨i, hi, rfl⟩ := List.mem_map.mp hx
    exact List.mem_range.mpr (names_getD h2 (names_getD h (List.mem_range.mp hi)).1).1
theorem names_at_ix {n i : Nat} {ps : List Nat} (h : Names n ps) (hi : i < n) : ps.getD (ps.idxOf i) 0 = i := by
  rw [List.getD_eq_getElem?_getD, h.at_ix hi]
  rfl
theorem thenN_ix {n i : Nat} {ps qs : List Nat} (h : Names n ps) (h2 : Names n qs) (hi : i < n) : (thenN n ps qs).idxOf i = ps.idxOf (qs.idxOf i) := by
  have ht := h.ix (h2.ix hi)
  have e : (thenN n ps qs).getD (ps.idxOf (qs.idxOf i)) 0 = i := by rw [thenN_getD ht, names_at_ix h (h2.ix hi), names_at_ix h2 hi]
  have := (names_getD (thenN_names h h2) ht).2
  rw [e] at this
  exact this
theorem ren_ren {n : Nat} {f : Nat → Nat → Int} {ps qs : List Nat} (h : Names n ps) (h2 : Names n qs) : Fm n (renF (renF f ps) qs) = Fm n (renF f (thenN n ps qs)) := fm_ext fun i j hi hj => by
  show f (ps.idxOf (qs.idxOf i)) (ps.idxOf (qs.idxOf j)) = f ((thenN n ps qs).idxOf i) ((thenN n ps qs).idxOf j)
  rw [thenN_ix h h2 hi, thenN_ix h h2 hj]
theorem inv_ix {n i : Nat} {ps : List Nat} (h : Names n ps) (hi : i < n) : (invN n ps).idxOf i = ps.getD i 0 := by
  have hq := names_getD h hi
  have e : (invN n ps).getD (ps.getD i 0) 0 = i := by rw [invN_getD hq.1, hq.2]
  have := (names_getD (invN_names h) hq.1).2
  rw [e] at this
  exact this
theorem least_ren {n : Nat} {f : Nat → Nat → Int} {ps : List Nat} (h : Names n ps) : leastM n (renF f ps) = leastM n f := by
  refine minL_eq fun y => ⟨fun hy => ?_, fun hy => ?_⟩
  · obtain ⟨qs, h1, rfl⟩ := List.mem_map.mp hy
    exact List.mem_map.mpr ⟨thenN n ps qs, mem_allAt_iff.mpr (thenN_names h (names_allAt h1)), (ren_ren h (names_allAt h1)).symm⟩
  · obtain ⟨rs, h1, rfl⟩ := List.mem_map.mp hy
    have hr := names_allAt h1
    have hi := invN_names h
    refine List.mem_map.mpr ⟨thenN n (invN n ps) rs, mem_allAt_iff.mpr (thenN_names hi hr), ?_⟩
    refine fm_ext fun i j hi' hj' => ?_
    show f (ps.idxOf ((thenN n (invN n ps) rs).idxOf i)) (ps.idxOf ((thenN n (invN n ps) rs).idxOf j)) = f (rs.idxOf i) (rs.idxOf j)
    rw [thenN_ix hi hr hi', thenN_ix hi hr hj', inv_ix h (hr.ix hi'), inv_ix h (hr.ix hj'), (names_getD h (hr.ix hi')).2, (names_getD h (hr.ix hj')).2]
theorem leastM_ext {n : Nat} {f g : Nat → Nat → Int} (h : ∀ i j, i < n → j < n → f i j = g i j) : leastM n f = leastM n g := by
  unfold leastM
  refine congrArg minL (List.map_congr_left fun ps hps => ?_)
  exact renF_ext (names_allAt hps) h
end AT

/-! ## least, and the defs that refuse a form of too many boxes -/
namespace AT
open PySem PySem.Spec PyProof.Rows L2 Evl
def sp_all_names : Sp := sp__law_all_names
def sp_least_by (K : Frag) : Sp := fun vs H Q _ => ∃ a n f, vs = [.ref a] ∧ LLI K H a (Fm n f) ∧ n ≤ 5 ∧ ∀ H' p, Ex H H' → OLLI H H' p (leastM n f) → Q (.ref p) H'
def sp_must_be_few (K : Frag) (CF CT : Addr) : Sp := fun vs H Q E => ∃ a M, vs = [.ref a] ∧ LLI K H a M ∧ SmallM M ∧ ∀ H', Ex H H' → (¬ IsForm M → E (.ref CF) none H') ∧ (∀ n f, M = Fm n f → FormOf n f → (4 < n → E (.ref CT) none H') ∧ (n ≤ 4 → Q .non H'))
def sp_least (K : Frag) (CF CT : Addr) : Sp := fun vs H Q E => ∃ a M, vs = [.ref a] ∧ LLI K H a M ∧ SmallM M ∧ (¬ IsForm M → ∀ H', Ex H H' → E (.ref CF) none H') ∧ (∀ n f, M = Fm n f → FormOf n f → (4 < n → ∀ H', Ex H H' → E (.ref CT) none H') ∧ (n ≤ 4 → ∀ H' p, Ex H H' → OLLI H H' p (leastM n f) → Q (.ref p) H'))
/-- a form of more than four boxes is refused -/
def sp_many1 (K : Frag) (CT : Addr) : Sp := fun vs H _ E => ∃ a n f, vs = [.ref a] ∧ LLI K H a (Fm n f) ∧ FormOf n f ∧ 4 < n ∧ ∀ H', Ex H H' → E (.ref CT) none H'
def sp_many2 (K : Frag) (CT : Addr) : Sp := fun vs H _ E => ∃ a b n f M, vs = [.ref a, .ref b] ∧ LLI K H a (Fm n f) ∧ FormOf n f ∧ 4 < n ∧ LLI K H b M ∧ SmallM M ∧ IsForm M ∧ ∀ H', Ex H H' → E (.ref CT) none H'
section
variable {X : Cx}
theorem pssN' {sts : List Stmt} : PSs X sts (fun _ _ _ => False) := ⟨fun _ _ _ _ _ _ h => h.elim⟩
theorem peN' {e : Expr} : PE X e (fun _ _ _ => False) := ⟨fun _ _ _ _ _ _ h => h.elim⟩
theorem callN' {f : Value} : CallR X f (fun _ _ _ => False) := fun _ _ _ _ _ _ _ _ _ h => h.elim
end
section
variable {P : Program} {w : World} {K : Frag} {mg : Str → Option Value} {base : Heap} {k : Nat}
theorem row_ne {n : Nat} {l : List (List Nat)} : ∀ {r : List Int}, r ∈ (l.flatMap (ext n)).map nI → r ≠ [] := fun {r} hr e => by
  obtain ⟨qs, h1, h2⟩ := List.mem_map.mp hr
  obtain ⟨ps, _, h3⟩ := List.mem_flatMap.mp h1
  obtain ⟨x, _, _, rfl⟩ := mem_ext.mp h3
  rw [e] at h2
  have := congrArg List.length h2
  rw [nI_len] at this
  simp at this
theorem sp_names_er {σ : St} {H : Hp} {n : Nat} {ta : TE} (h : Ev ta σ H (.int (n : Int))) (hn : n ≤ 6) : Er (tCall sp__law_all_names [] E0 (tCons ta tNil)) σ H (fun H1 H2 v => ∃ p, v = .ref p ∧ H1 p = none ∧ TL H2 p ((allAt n n).map nI)) := fun H1 e Q q =>
  h H1 e _ fun H2 e2 => ⟨n, rfl, hn, fun H3 p e3 hp hT => q _ H3 (e2.trans e3) ⟨p, rfl, fresh_back e2 hp, hT⟩⟩
/-- [a form renamed for all names] -/
theorem er_allRen {σ : St} {H : Hp} {te tn : TE} {n j : Nat} {f : Nat → Nat → Int} {ws : List Nat} (hn : Ev tn σ H (.int (n : Int))) (h5 : n ≤ 5) (hw : ∀ x, wipe ((wipe σ ws).set j (some x)) ws = wipe σ ws)
    (he : ∀ (c : Addr) (ps : List Nat) H1, Ex H H1 → Names n ps → LI K H1 c (nI ps) → Er te ((wipe σ ws).set j (some (.ref c))) H1 (RM (Fm n (renF f ps)))) :
    Er (tCB (rMinD K) (tCons (tLc (iList K (tCall sp__law_all_names [] E0 (tCons tn tNil))) (gName j) tYes te ws) tNil)) σ H (RM (leastM n f)) := by
  have h := er_lcN (K := K) (t := tYes) (te := te) (n := (allAt n n).length) (fun _ => true) (fun i => RM (Fm n (renF f ((allAt n n).getD i [])))) (fun i => mon'_RM) (sp_names_er hn (by omega)) (Nat.le_trans (allAt_len (by omega) n (by omega)) (Nat.le_trans (Nat.pow_le_pow_right (by decide) h5) (by decide))) hw (fun G1 G2 v g1 g2 hv => ?_)
  · have h2 := er_minRM (K := K) (idx := (List.range (allAt n n).length).filter fun _ => true) h (by
      rw [filt_all]
      intro e
      have := congrArg List.length e
      rw [List.length_range] at this
      exact allAt_ne (List.length_eq_zero_iff.mp this))
    rw [filt_all] at h2
    have e : (List.range (allAt n n).length).map (fun i => Fm n (renF f ((allAt n n).getD i []))) = (allAt n n).map fun ps => Fm n (renF f ps) := by
      conv => rhs; rw [list_eq_range [] (allAt n n)]
      rw [List.map_map]
      rfl
    rw [e] at h2
    exact h2
  · obtain ⟨p, rfl, hp, as, hA, hAP⟩ := hv
    refine ⟨p, as.map V.ref, rfl, sq_of hA, by rw [List.length_map, hAP.length, List.length_map], fun i x G3 hx g3 => ⟨fun H1 e Q q => q H1 (Ex.refl _), fun _ => ?_⟩⟩
    rw [List.getElem?_map] at hx
    cases hax : as[i]? with
    | none => rw [hax] at hx; cases hx
    | some c =>
      rw [hax] at hx
      cases hx
      obtain ⟨r, hr1, hr2⟩ := paired_getL hAP hax
      rw [List.getElem?_map] at hr1
      cases hps : (allAt n n)[i]? with
      | none => rw [hps] at hr1; cases hr1
      | some ps =>
        rw [hps] at hr1
        cases hr1
        have e : (allAt n n).getD i [] = ps := by rw [List.getD_eq_getElem?_getD, hps]; rfl
        rw [e]
        exact he c ps G3 ((g1.trans g2).trans g3) (names_allAt (List.mem_of_getElem? hps)) (sq_of (g3 _ _ hr2))
end
end AT

/-! ## the sum over all orders -/
namespace AT
open PySem
/-! ### sums and products over lists -/
def sumL : List Int → Int
  | [] => 0
  | x :: xs => x + sumL xs
def prodL : List Int → Int
  | [] => 1
  | x :: xs => x * prodL xs
theorem sumL_perm {l l' : List Int} (h : l.Perm l') : sumL l = sumL l' := by
  induction h with
  | nil => rfl
  | cons x _ ih => simp only [sumL, ih]
  | swap x y l => simp only [sumL]; omega
  | trans _ _ h1 h2 => rw [h1, h2]
theorem prodL_perm {l l' : List Int} (h : l.Perm l') : prodL l = prodL l' := by
  induction h with
  | nil => rfl
  | cons x _ ih => simp only [prodL, ih]
  | swap x y l => simp only [prodL]; rw [← Int.mul_assoc, ← Int.mul_assoc, Int.mul_comm y x]
  | trans _ _ h1 h2 => rw [h1, h2]
theorem sumL_add {α : Type} (f g : α → Int) (a b : Int) : ∀ l : List α, sumL (l.map fun x => a * f x + b * g x) = a * sumL (l.map f) + b * sumL (l.map g)
  | [] => by simp [sumL]
  | x :: l => by
    simp only [List.map_cons, sumL, sumL_add f g a b l, Int.mul_add]
    omega
theorem sumL_zero {α : Type} {f : α → Int} : ∀ {l : List α}, (∀ x ∈ l, f x = 0) → sumL (l.map f) = 0
  | [], _ => rfl
  | x :: l, h => by
    simp only [List.map_cons, sumL, h x List.mem_cons_self, sumL_zero fun y hy => h y (List.mem_cons_of_mem _ hy)]
    rfl
theorem sumL_congr {α : Type} {f g : α → Int} {l : List α} (h : ∀ x ∈ l, f x = g x) : sumL (l.map f) = sumL (l.map g) := by rw [List.map_congr_left h]
theorem sumL_mul {α : Type} (f : α → Int) (a : Int) (l : List α) : sumL (l.map fun x => a * f x) = a * sumL (l.map f) := by
  induction l with
  | nil => simp [sumL]
  | cons x l ih => simp only [List.map_cons, sumL, ih, Int.mul_add]
theorem sumL_filter {α : Type} {f : α → Int} {p : α → Bool} : ∀ {l : List α}, (∀ x ∈ l, p x = false → f x = 0) → sumL (l.map f) = sumL ((l.filter p).map f)
  | [], _ => rfl
  | x :: l, h => by
    have ih := sumL_filter (f := f) (p := p) (l := l) fun y hy => h y (List.mem_cons_of_mem _ hy)
    rw [List.filter_cons]
    cases hp : p x with
    | true => simp only [if_true, List.map_cons, sumL, ih]
    | false =>
      simp only [List.map_cons, sumL, ih, h x List.mem_cons_self hp]
      simp
theorem prodL_zero {l : List Int} (h : 0 ∈ l) : prodL l = 0 := by
  induction l with
  | nil => cases h
  | cons x l ih =>
    rcases List.mem_cons.mp h with e | h
    · show x * prodL l = 0
      rw [← e]
      exact Int.zero_mul _
    · show x * prodL l = 0
      rw [ih h]
      exact Int.mul_zero _
def prN (n : Nat) (h : Nat → Int) : Int := prodL ((List.range n).map h)
theorem prN_congr {n : Nat} {h g : Nat → Int} (e : ∀ i, i < n → h i = g i) : prN n h = prN n g := congrArg prodL (List.map_congr_left fun i hi => e i (List.mem_range.mp hi))
theorem prN_perm {n : Nat} {h : Nat → Int} {l : List Nat} (p : l.Perm (List.range n)) : prodL (l.map h) = prN n h := prodL_perm (p.map h)
theorem prN_zero {n i : Nat} {h : Nat → Int} (hi : i < n) (e : h i = 0) : prN n h = 0 := prodL_zero (List.mem_map.mpr ⟨i, List.mem_range.mpr hi, e⟩)
theorem prN_succ (n : Nat) (h : Nat → Int) : prN (n + 1) h = h 0 * prN n fun i => h (i + 1) := by
  unfold prN
  rw [List.range_succ_eq_map, List.map_cons, List.map_map]
  rfl
theorem prodL_one {x : Int} {h : Nat → Int} {i : Nat} : ∀ {l : List Nat}, l.Nodup → i ∈ l → prodL (l.map fun k => if k = i then x else h k) = x * prodL (l.map fun k => if k = i then 1 else h k)
  | [], _, hm => by cases hm
  | a :: l, hn, hm => by
    rw [List.nodup_cons] at hn
    by_cases e : a = i
    · subst e
      have h1 : (l.map fun k => if k = a then x else h k) = l.map fun k => if k = a then 1 else h k := List.map_congr_left fun k hk => by
        have : k ≠ a := fun z => hn.1 (z ▸ hk)
        rw [if_neg this, if_neg this]
      simp only [List.map_cons, prodL, if_true, h1, Int.one_mul]
    · have hm' : i ∈ l := (List.mem_cons.mp hm).resolve_left fun z => e z.symm
      show (if a = i then x else h a) * prodL (l.map fun k => if k = i then x else h k) = x * ((if a = i then 1 else h a) * prodL (l.map fun k => if k = i then 1 else h k))
      rw [if_neg e, if_neg e, prodL_one hn.2 hm', ← Int.mul_assoc, ← Int.mul_assoc, Int.mul_comm (h a) x]
/-! ### the sign, the sum -/
def invs (ps : List Nat) : Nat := ((List.range ps.length).map fun k => ((List.range k).filter fun j => decide (ps.getD k 0 < ps.getD j 0)).length).sum
def sgn (ps : List Nat) : Int := 1 - ((invs ps % 2 : Nat) : Int) * 2
def term (n : Nat) (A : Nat → Nat → Int) (ps : List Nat) : Int := sgn ps * prN n fun i => A i (ps.getD i 0)
def detL (n : Nat) (A : Nat → Nat → Int) : Int := sumL ((allAt n n).map (term n A))
/-! ### two neighbours changed about -/
def adj : Nat → List Nat → List Nat
  | 0, a :: b :: r => b :: a :: r
  | i + 1, x :: l => x :: adj i l
  | _, l => l
theorem adj_perm : ∀ (i : Nat) (l : List Nat), (adj i l).Perm l
  | 0, [] => .refl _
  | 0, [_] => .refl _
  | 0, a :: b :: r => .swap _ _ _
  | _ + 1, [] => .refl _
  | i + 1, x :: l => (adj_perm i l).cons x
theorem adj_adj : ∀ (i : Nat) (l : List Nat), adj i (adj i l) = l
  | 0, [] => rfl
  | 0, [_] => rfl
  | 0, a :: b :: r => rfl
  | _ + 1, [] => rfl
  | i + 1, x :: l => congrArg (x :: ·) (adj_adj i l)
def swp (i k : Nat) : Nat := if k = i then i + 1 else if k = i + 1 then i else k
theorem swp_succ (i k : Nat) : swp (i + 1) (k + 1) = swp i k + 1 := by
  unfold swp
  by_cases h1 : k = i
  · rw [if_pos h1, if_pos (by omega)]
  · by_cases h2 : k = i + 1
    · rw [if_neg h1, if_neg (by omega), if_pos h2, if_pos (by omega)]
    · rw [if_neg h1, if_neg (by omega), if_neg h2, if_neg (by omega)]
theorem adj_getD : ∀ (i : Nat) (l : List Nat) (k : Nat), i + 1 < l.length → (adj i l).getD k 0 = l.getD (swp i k) 0
  | 0, [], _, h => by simp at h
  | 0, [_], _, h => by simp at h
  | 0, a :: b :: r, 0, _ => rfl
  | 0, a :: b :: r, 1, _ => rfl
  | 0, a :: b :: r, k + 2, _ => by
    have : swp 0 (k + 2) = k + 2 := by unfold swp; rw [if_neg (by omega), if_neg (by omega)]
    rw [this]; rfl
  | i + 1, [], _, h => by simp at h
  | i + 1, x :: l, 0, _ => by
    have : swp (i + 1) 0 = 0 := by unfold swp; rw [if_neg (by omega), if_neg (by omega)]
    rw [this]; rfl
  | i + 1, x :: l, k + 1, h => by
    rw [swp_succ]
    have := adj_getD i l k (by simpa using h)
    simpa [adj] using this
def invF : List Nat → Nat
  | [] => 0
  | x :: xs => (xs.filter fun y => decide (y < x)).length + invF xs
theorem invF_adj : ∀ (i : Nat) (l : List Nat), i + 1 < l.length → l.Nodup → invF (adj i l) = invF l + 1 ∨ invF l = invF (adj i l) + 1
  | 0, [], h, _ => by simp at h
  | 0, [_], h, _ => by simp at h
  | 0, a :: b :: r, _, hn => by
    have hab : a ≠ b := by
      rw [List.nodup_cons] at hn
      exact fun e => hn.1 (e ▸ List.mem_cons_self)
    simp only [adj, invF, List.filter_cons]
    by_cases h : a < b
    · have h2 : ¬ b < a := by omega
      simp only [h, h2, decide_true, decide_false, if_true, List.length_cons]
      simp
      omega
    · have h2 : b < a := by omega
      simp only [h, h2, decide_true, decide_false, if_true, List.length_cons]
      simp
      omega
  | i + 1, [], h, _ => by simp at h
  | i + 1, x :: l, h, hn => by
    rw [List.nodup_cons] at hn
    have ih := invF_adj i l (by simpa using h) hn.2
    have hc := ((adj_perm i l).filter fun y => decide (y < x)).length_eq
    simp only [adj, invF, hc]
    omega
theorem filt_getD (p : Nat → Bool) (l : List Nat) : ((List.range l.length).filter fun k => p (l.getD k 0)).length = (l.filter p).length := by
  conv => rhs; rw [list_eq_range 0 l]
  rw [List.filter_map, List.length_map]
  rfl
theorem sum_ite (p : Nat → Bool) (f : Nat → Nat) : ∀ l : List Nat, (l.map fun k => (if p k = true then 1 else 0) + f k).sum = (l.filter p).length + (l.map f).sum
  | [] => rfl
  | x :: l => by
    have ih := sum_ite p f l
    simp only [List.map_cons, List.sum_cons, List.filter_cons]
    cases h : p x with
    | true => simp only [if_true, List.length_cons, ih]; omega
    | false => simp only [ih]; simp; omega
theorem invs_eq : ∀ l : List Nat, invs l = invF l
  | [] => rfl
  | x :: xs => by
    have ih := invs_eq xs
    have h1 : ∀ k, ((List.range (k + 1)).filter fun j => decide ((x :: xs).getD (k + 1) 0 < (x :: xs).getD j 0)).length = (if decide (xs.getD k 0 < x) = true then 1 else 0) + ((List.range k).filter fun j => decide (xs.getD k 0 < xs.getD j 0)).length := fun k => by
      rw [List.range_succ_eq_map, List.filter_cons, List.filter_map]
      by_cases h : xs.getD k 0 < x
      · simp only [List.getD_cons_succ, List.getD_cons_zero, h, decide_true, if_true, List.length_cons, List.length_map]
        rw [Nat.add_comm]
        rfl
      · simp only [List.getD_cons_succ, List.getD_cons_zero, h, decide_false, List.length_map]
        simp
        rfl
    have h2 : invs (x :: xs) = ((List.range xs.length).map fun k => (if decide (xs.getD k 0 < x) = true then 1 else 0) + ((List.range k).filter fun j => decide (xs.getD k 0 < xs.getD j 0)).length).sum := by
      unfold invs
      rw [List.length_cons, List.range_succ_eq_map, List.map_cons, List.sum_cons, List.map_map]
      have : (fun k => ((List.range k).filter fun j => decide ((x :: xs).getD k 0 < (x :: xs).getD j 0)).length) ∘ Nat.succ = fun k => (if decide (xs.getD k 0 < x) = true then 1 else 0) + ((List.range k).filter fun j => decide (xs.getD k 0 < xs.getD j 0)).length := funext fun k => h1 k
      rw [this]
      simp
    rw [h2, sum_ite (fun k => decide (xs.getD k 0 < x)), filt_getD fun y => decide (y < x)]
    show _ + invs xs = _
    rw [ih]
    rfl
theorem sgn_adj {i : Nat} {l : List Nat} (h : i + 1 < l.length) (hn : l.Nodup) : sgn (adj i l) = 0 - sgn l := by
  unfold sgn
  rw [invs_eq, invs_eq]
  rcases invF_adj i l h hn with e | e <;> omega
/-! ### rules -/
theorem allAt_nd (n : Nat) : (allAt n n).Nodup := by
  rw [allAt_comp]
  refine (comp_sorted n part_nil).imp fun {a b} h e => ?_
  rw [e, ltI_self] at h
  cases h
theorem sum_bij {n : Nat} {φ : List Nat → List Nat} (g : List Nat → Int) (h : ∀ ps, Names n ps → Names n (φ ps)) (hi : ∀ ps qs, Names n ps → Names n qs → φ ps = φ qs → ps = qs) : sumL ((allAt n n).map fun ps => g (φ ps)) = sumL ((allAt n n).map g) := by
  have hp : ((allAt n n).map φ).Perm (allAt n n) := by
    refine perm_of_sub ?_ (fun x hx => ?_) (by rw [List.length_map]; exact Nat.le_refl _)
    · rw [List.Nodup, List.pairwise_map]
      exact List.Pairwise.imp_of_mem (fun {a b} ha hb hne e => hne (hi a b (names_allAt ha) (names_allAt hb) e)) (allAt_nd n)
    · obtain ⟨ps, h1, rfl⟩ := List.mem_map.mp hx
      exact mem_allAt_iff.mpr (h ps (names_allAt h1))
  have := sumL_perm (hp.map g)
  rw [List.map_map] at this
  exact this
theorem detL_congr {n : Nat} {A B : Nat → Nat → Int} (h : ∀ i j, i < n → j < n → A i j = B i j) : detL n A = detL n B := by
  refine sumL_congr fun ps hps => ?_
  unfold term
  exact congrArg _ (prN_congr fun i hi => h i _ hi (names_getD (names_allAt hps) hi).1)
theorem swp_names {n i : Nat} (h : i + 1 < n) : ((List.range n).map (swp i)).Perm (List.range n) := by
  refine perm_of_sub ?_ (fun x hx => ?_) (by simp)
  · rw [List.Nodup, List.pairwise_map]
    refine List.Pairwise.imp_of_mem (fun {a b} _ _ hne e => hne ?_) List.nodup_range
    have h2 : ∀ k, swp i (swp i k) = k := fun k => by
      unfold swp
      by_cases h1 : k = i
      · rw [if_pos h1, if_neg (by omega), if_pos rfl, h1]
      · by_cases h2 : k = i + 1
        · rw [if_neg h1, if_pos h2, if_pos rfl, h2]
        · rw [if_neg h1, if_neg h2, if_neg h1, if_neg h2]
    rw [← h2 a, e, h2 b]
  · obtain ⟨k, hk, rfl⟩ := List.mem_map.mp hx
    have hk := List.mem_range.mp hk
    rw [List.mem_range]
    unfold swp
    split
    · omega
    · split <;> omega
/-- two neighbouring rows changed about -/
theorem detL_adj {n i : Nat} {A : Nat → Nat → Int} (h : i + 1 < n) : detL n (fun k j => A (swp i k) j) = 0 - detL n A := by
  have e : detL n (fun k j => A (swp i k) j) = sumL ((allAt n n).map fun ps => (-1) * term n A (adj i ps)) := by
    refine sumL_congr fun ps hps => ?_
    have hps := names_allAt hps
    have hlen := hps.len
    unfold term
    rw [sgn_adj (by omega) hps.nd]
    have e1 : prN n (fun k => A k ((adj i ps).getD k 0)) = prN n fun k => A (swp i k) (ps.getD k 0) := by
      rw [← prN_perm (swp_names h), List.map_map]
      unfold prN
      refine congrArg prodL (List.map_congr_left fun k hk => ?_)
      show A (swp i k) ((adj i ps).getD (swp i k) 0) = _
      rw [adj_getD i ps _ (by omega)]
      have : swp i (swp i k) = k := by
        unfold swp
        by_cases h1 : k = i
        · rw [if_pos h1, if_neg (by omega), if_pos rfl, h1]
        · by_cases h2 : k = i + 1
          · rw [if_neg h1, if_pos h2, if_pos rfl, h2]
          · rw [if_neg h1, if_neg h2, if_neg h1, if_neg h2]
      rw [this]
    rw [e1]
    generalize prN n (fun k => A (swp i k) (ps.getD k 0)) = x
    generalize sgn ps = y
    rw [Int.sub_mul]
    omega
  rw [e, sumL_mul]
  have := sum_bij (n := n) (φ := adj i) (term n A) (fun ps hps => (adj_perm i ps).trans hps) (fun ps qs _ _ e => by rw [← adj_adj i ps, e, adj_adj])
  rw [this]
  unfold detL
  omega
def setR (A : Nat → Nat → Int) (i : Nat) (r : Nat → Int) : Nat → Nat → Int := fun k j => if k = i then r j else A k j
theorem term_setR {n i : Nat} {A : Nat → Nat → Int} {r : Nat → Int} {ps : List Nat} (hi : i < n) : term n (setR A i r) ps = r (ps.getD i 0) * term n (setR A i fun _ => 1) ps := by
  unfold term
  have h1 : prN n (fun k => setR A i r k (ps.getD k 0)) = r (ps.getD i 0) * prN n fun k => setR A i (fun _ => 1) k (ps.getD k 0) := by
    have := prodL_one (x := r (ps.getD i 0)) (h := fun k => A k (ps.getD k 0)) (i := i) (l := List.range n) List.nodup_range (List.mem_range.mpr hi)
    unfold prN
    rw [← (show _ = _ from congrArg (r (ps.getD i 0) * ·) (congrArg prodL (List.map_congr_left fun k _ => by unfold setR; rfl))), ← this]
    refine congrArg prodL (List.map_congr_left fun k _ => ?_)
    unfold setR
    by_cases e : k = i
    · rw [if_pos e, if_pos e, e]
    · rw [if_neg e, if_neg e]
  rw [h1, ← Int.mul_assoc, ← Int.mul_assoc, Int.mul_comm (sgn ps)]
/-- a row that is a sum -/
theorem detL_lin {n i : Nat} {A : Nat → Nat → Int} {r s : Nat → Int} {a b : Int} (hi : i < n) : detL n (setR A i fun j => a * r j + b * s j) = a * detL n (setR A i r) + b * detL n (setR A i s) := by
  unfold detL
  rw [← sumL_add]
  refine sumL_congr fun ps _ => ?_
  rw [term_setR hi, term_setR (r := r) hi, term_setR (r := s) hi, Int.add_mul, Int.mul_assoc, Int.mul_assoc]
theorem setR_self (A : Nat → Nat → Int) (i : Nat) : setR A i (A i) = A := funext fun k => funext fun j => by
  unfold setR
  by_cases e : k = i
  · rw [if_pos e, e]
  · rw [if_neg e]
/-- two equal rows -/
theorem detL_same {n : Nat} : ∀ (d : Nat) {A : Nat → Nat → Int} {p : Nat}, p + d + 1 < n → (∀ j, j < n → A p j = A (p + d + 1) j) → detL n A = 0
  | 0, A, p, h, e => by
    have h1 := detL_adj (A := A) (i := p) h
    have h2 : detL n (fun k j => A (swp p k) j) = detL n A := detL_congr fun k j _ hj => by
      unfold swp
      by_cases h1 : k = p
      · rw [if_pos h1, h1]; exact (e j hj).symm
      · by_cases h2 : k = p + 1
        · rw [if_neg h1, if_pos h2, h2]; exact e j hj
        · rw [if_neg h1, if_neg h2]
    omega
  | d + 1, A, p, h, e => by
    have h1 := detL_adj (A := A) (i := p + d + 1) (by omega)
    have h2 := detL_same (n := n) d (A := fun k j => A (swp (p + d + 1) k) j) (p := p) (by omega) fun j hj => by
      have e1 : swp (p + d + 1) p = p := by unfold swp; rw [if_neg (by omega), if_neg (by omega)]
      have e2 : swp (p + d + 1) (p + d + 1) = p + d + 1 + 1 := by unfold swp; rw [if_pos rfl]
      show A (swp (p + d + 1) p) j = A (swp (p + d + 1) (p + d + 1)) j
      rw [e1, e2]
      exact e j hj
    omega
theorem detL_eq {n p q : Nat} {A : Nat → Nat → Int} (hp : p < n) (hq : q < n) (hne : p ≠ q) (e : ∀ j, j < n → A p j = A q j) : detL n A = 0 := by
  rcases Nat.lt_or_gt_of_ne hne with h | h
  · obtain ⟨d, rfl⟩ : ∃ d, q = p + d + 1 := ⟨q - p - 1, by omega⟩
    exact detL_same d hq e
  · obtain ⟨d, rfl⟩ : ∃ d, p = q + d + 1 := ⟨p - q - 1, by omega⟩
    exact detL_same d hp fun j hj => (e j hj).symm
/-- a row put behind a times itself and b times another one -/
theorem detL_op {n p q : Nat} {A : Nat → Nat → Int} {a b : Int} (hp : p < n) (hq : q < n) (hne : p ≠ q) : detL n (setR A p fun j => a * A p j + b * A q j) = a * detL n A := by
  rw [detL_lin hp, setR_self]
  have h : detL n (setR A p (A q)) = 0 := detL_eq hp hq hne fun j _ => by
    unfold setR
    rw [if_pos rfl, if_neg (Ne.symm hne)]
  rw [h]
  omega
/-- two rows changed about -/
theorem detL_swap {n p q : Nat} {A : Nat → Nat → Int} (hp : p < n) (hq : q < n) (hne : p ≠ q) : detL n (setR (setR A p (A q)) q (A p)) = 0 - detL n A := by
  have h0 : ∀ B : Nat → Nat → Int, (∀ j, B p j = B q j) → detL n B = 0 := fun B h => detL_eq hp hq hne fun j _ => h j
  have mk : ∀ r s, detL n (setR (setR A p r) q s) = detL n (setR (setR A q s) p r) := fun r s => detL_congr fun i j _ _ => by
    unfold setR
    by_cases e1 : i = q
    · rw [if_pos e1, if_neg (by omega), if_pos e1]
    · rw [if_neg e1, if_neg e1]
  -- (p + q, p + q)
  have h1 : detL n (setR (setR A p fun j => 1 * A p j + 1 * A q j) q fun j => 1 * A p j + 1 * A q j) = 0 := h0 _ fun j => by
    unfold setR
    rw [if_neg hne, if_pos rfl, if_pos rfl]
  rw [detL_lin hq, mk, mk, detL_lin hp, detL_lin hp, ← mk, ← mk, ← mk, ← mk] at h1
  have h2 : detL n (setR (setR A p (A p)) q (A p)) = 0 := h0 _ fun j => by
    unfold setR
    rw [if_neg hne, if_pos rfl, if_pos rfl]
  have h3 : detL n (setR (setR A p (A q)) q (A q)) = 0 := h0 _ fun j => by
    unfold setR
    rw [if_neg hne, if_pos rfl, if_pos rfl]
  have h4 : detL n (setR (setR A p (A p)) q (A q)) = detL n A := by rw [setR_self, setR_self]
  rw [h2, h3, h4] at h1
  omega
/-! ### a first column of noughts -/
theorem detL_col0 {n : Nat} {A : Nat → Nat → Int} (h0 : 0 < n) (h : ∀ i, i < n → A i 0 = 0) : detL n A = 0 := sumL_zero fun ps hps => by
  have hps := names_allAt hps
  unfold term
  have hix := hps.ix h0
  rw [prN_zero (i := ps.idxOf 0) hix (by rw [names_at_ix hps h0]; exact h _ hix)]
  exact Int.mul_zero _
def cons0 (qs : List Nat) : List Nat := 0 :: qs.map (· + 1)
theorem invF_map (qs : List Nat) : invF (qs.map (· + 1)) = invF qs := by
  induction qs with
  | nil => rfl
  | cons x qs ih =>
    simp only [List.map_cons, invF, ih, List.filter_map, List.length_map]
    congr 2
    refine List.filter_congr fun y _ => ?_
    show decide (y + 1 < x + 1) = decide (y < x)
    exact decide_eq_decide.mpr (by omega)
theorem sgn_cons0 (qs : List Nat) : sgn (cons0 qs) = sgn qs := by
  unfold sgn cons0
  rw [invs_eq, invs_eq]
  have : invF (0 :: qs.map (· + 1)) = invF qs := by
    show (List.filter _ _).length + _ = _
    rw [invF_map]
    have : (qs.map (· + 1)).filter (fun y => decide (y < 0)) = [] := List.filter_eq_nil_iff.mpr fun y _ => by simp
    rw [this]
    simp
  rw [this]
theorem cons0_names {n : Nat} {qs : List Nat} : Names (n + 1) (cons0 qs) ↔ Names n qs := by
  unfold Names cons0
  rw [List.range_succ_eq_map, List.perm_cons]
  refine ⟨fun h => ?_, fun h => h.map _⟩
  have := h.map fun x => x - 1
  rw [List.map_map, List.map_map] at this
  have e : ∀ l : List Nat, l.map ((fun x => x - 1) ∘ fun x => x + 1) = l := fun l => by
    conv => rhs; rw [← List.map_id l]
    exact List.map_congr_left fun y _ => by show y + 1 - 1 = y; omega
  have e2 : ∀ l : List Nat, l.map ((fun x => x - 1) ∘ Nat.succ) = l := fun l => e l
  rw [e, e2] at this
  exact this
theorem detL_block {n : Nat} {A : Nat → Nat → Int} (h : ∀ i, i < n → A (i + 1) 0 = 0) : detL (n + 1) A = A 0 0 * detL n fun i j => A (i + 1) (j + 1) := by
  unfold detL
  rw [sumL_filter (p := fun ps => decide (ps.getD 0 0 = 0)) fun ps hps hp => ?_]
  · have hp : ((allAt (n + 1) (n + 1)).filter fun ps => decide (ps.getD 0 0 = 0)).Perm ((allAt n n).map cons0) := by
      have hnd : ((allAt n n).map cons0).Nodup := by
        rw [List.Nodup, List.pairwise_map]
        refine (allAt_nd n).imp fun {a b} hne e => hne ?_
        unfold cons0 at e
        injection e with _ e
        exact (List.map_inj_right fun a b e => by omega).mp e
      refine (List.perm_ext_iff_of_nodup ((allAt_nd (n + 1)).filter _) hnd).mpr fun ps => ?_
      rw [List.mem_filter, mem_allAt_iff, List.mem_map, decide_eq_true_eq]
      constructor
      · rintro ⟨h1, h2⟩
        cases ps with
        | nil => have := h1.len; simp at this
        | cons x ps =>
          have hx : x = 0 := h2
          subst hx
          have hnd := h1.nd
          rw [List.nodup_cons] at hnd
          have e : ps = (ps.map (· - 1)).map (· + 1) := by
            rw [List.map_map]
            conv => lhs; rw [← List.map_id ps]
            refine List.map_congr_left fun y hy => ?_
            have : y ≠ 0 := fun z => hnd.1 (z ▸ hy)
            show y = y - 1 + 1
            omega
          refine ⟨ps.map (· - 1), mem_allAt_iff.mpr (cons0_names.mp ?_), ?_⟩
          · unfold cons0
            rw [← e]
            exact h1
          · unfold cons0
            rw [← e]
      · rintro ⟨qs, h1, rfl⟩
        exact ⟨cons0_names.mpr (names_allAt h1), rfl⟩
    rw [sumL_perm (hp.map (term (n + 1) A)), List.map_map, ← sumL_mul]
    refine sumL_congr fun qs hqs => ?_
    show term (n + 1) A (cons0 qs) = _
    unfold term
    rw [sgn_cons0, prN_succ]
    have e : prN n (fun i => A (i + 1) ((cons0 qs).getD (i + 1) 0)) = prN n fun i => A (i + 1) (qs.getD i 0 + 1) := prN_congr fun i hi => by
      have : (cons0 qs).getD (i + 1) 0 = qs.getD i 0 + 1 := by
        unfold cons0
        have hl := (names_allAt hqs).len
        rw [List.getD_cons_succ, List.getD_eq_getElem?_getD, List.getD_eq_getElem?_getD, List.getElem?_map, List.getElem?_eq_getElem (by omega)]
        rfl
      rw [this]
    rw [e]
    show sgn qs * (A 0 0 * _) = A 0 0 * (sgn qs * _)
    rw [← Int.mul_assoc, ← Int.mul_assoc, Int.mul_comm (sgn qs)]
  · have hps := names_allAt hps
    rw [decide_eq_false_iff_not] at hp
    unfold term
    have h0 : 0 < n + 1 := by omega
    have hix := hps.ix h0
    have hne : ps.idxOf 0 ≠ 0 := fun z => hp (by have := names_at_ix hps h0; rw [z] at this; exact this)
    rw [prN_zero (i := ps.idxOf 0) hix ?_]
    · exact Int.mul_zero _
    · rw [names_at_ix hps h0]
      obtain ⟨m, hm⟩ : ∃ m, ps.idxOf 0 = m + 1 := ⟨ps.idxOf 0 - 1, by omega⟩
      rw [hm]
      exact h m (by omega)
end AT

/-! ## clearing rows without fractions -/
namespace AT
open PySem
def chioY (X : Nat → Nat → Int) : Nat → Nat → Int := fun i j => X 0 0 * X (i + 1) (j + 1) - X (i + 1) 0 * X 0 (j + 1)
def chioZ (X : Nat → Nat → Int) (t : Nat) : Nat → Nat → Int := fun i j => if 1 ≤ i ∧ i ≤ t then X 0 0 * X i j - X i 0 * X 0 j else X i j
theorem chioZ_det {r : Nat} {X : Nat → Nat → Int} : ∀ t, t ≤ r → detL (r + 1) (chioZ X t) = X 0 0 ^ t * detL (r + 1) X
  | 0, _ => by
    have : chioZ X 0 = X := funext fun i => funext fun j => by unfold chioZ; rw [if_neg (by omega)]
    rw [this, Int.pow_zero, Int.one_mul]
  | t + 1, h => by
    have ih := chioZ_det (r := r) (X := X) t (by omega)
    have e : chioZ X (t + 1) = setR (chioZ X t) (t + 1) fun j => X 0 0 * chioZ X t (t + 1) j + (0 - X (t + 1) 0) * chioZ X t 0 j := funext fun i => funext fun j => by
      have h1 : chioZ X t (t + 1) j = X (t + 1) j := by unfold chioZ; rw [if_neg (by omega)]
      have h2 : chioZ X t 0 j = X 0 j := by unfold chioZ; rw [if_neg (by omega)]
      unfold setR
      dsimp only
      rw [h1, h2]
      by_cases e : i = t + 1
      · subst e
        rw [if_pos rfl]
        unfold chioZ
        rw [if_pos (by omega)]
        grind
      · rw [if_neg e]
        unfold chioZ
        by_cases h3 : 1 ≤ i ∧ i ≤ t
        · rw [if_pos h3, if_pos (by omega)]
        · rw [if_neg h3, if_neg (by omega)]
    rw [e, detL_op (by omega) (by omega) (by omega), ih, Int.pow_succ]
    grind
theorem chio {r : Nat} {X : Nat → Nat → Int} : X 0 0 ^ r * detL (r + 1) X = X 0 0 * detL r (chioY X) := by
  rw [← chioZ_det r (Nat.le_refl r), detL_block fun i hi => ?_]
  · have h0 : chioZ X r 0 0 = X 0 0 := by unfold chioZ; rw [if_neg (by omega)]
    rw [h0]
    refine congrArg _ (detL_congr fun i j hi _ => ?_)
    unfold chioZ chioY
    rw [if_pos (by omega)]
  · unfold chioZ
    rw [if_pos (by omega)]
    grind
theorem detL_scale {n : Nat} {A : Nat → Nat → Int} (d : Int) : detL n (fun i j => d * A i j) = d ^ n * detL n A := by
  unfold detL
  rw [← sumL_mul]
  refine sumL_congr fun ps _ => ?_
  unfold term
  have : ∀ n (h : Nat → Int), prN n (fun i => d * h i) = d ^ n * prN n h := fun n => by
    induction n with
    | zero =>
      intro h
      show (1 : Int) = d ^ 0 * 1
      rw [Int.pow_zero]
      rfl
    | succ n ih =>
      intro h
      rw [prN_succ, prN_succ, ih fun i => h (i + 1), Int.pow_succ]
      grind
  rw [this n fun i => A i (ps.getD i 0)]
  grind
theorem detL_one {A : Nat → Nat → Int} : detL 1 A = A 0 0 := by
  have h : allAt 1 1 = [[0]] := by decide
  unfold detL
  rw [h]
  show sgn [0] * (A 0 0 * 1) + 0 = A 0 0
  have : sgn [0] = 1 := by decide
  rw [this]
  omega
theorem detL_two {A : Nat → Nat → Int} : detL 2 A = A 0 0 * A 1 1 - A 0 1 * A 1 0 := by
  have h : allAt 2 2 = [[0, 1], [1, 0]] := by decide
  unfold detL
  rw [h]
  show sgn [0, 1] * (A 0 0 * (A 1 1 * 1)) + (sgn [1, 0] * (A 0 1 * (A 1 0 * 1)) + 0) = _
  have h1 : sgn [0, 1] = 1 := by decide
  have h2 : sgn [1, 0] = -1 := by decide
  rw [h1, h2]
  grind
theorem detL_nil {A : Nat → Nat → Int} : detL 0 A = 1 := by
  have h : allAt 0 0 = [[]] := by decide
  unfold detL
  rw [h]
  rfl
/-- how far it has come: m rows are left, d is the pivot ahead, s the sign, L what is looked for -/
structure Bar (L : Int) (m : Nat) (X : Nat → Nat → Int) (d s : Int) : Prop where
  d0 : d ≠ 0
  dv : ∀ (r : Nat) (ρ γ : Nat → Nat), (∀ i, i < r + 1 → ρ i < m) → (∀ j, j < r + 1 → γ j < m) → ∃ c, detL (r + 1) (fun i j => X (ρ i) (γ j)) = d ^ r * c
  dt : ∀ t, m = t + 1 → s * detL m X = d ^ t * L
theorem Bar.start {n : Nat} {A : Nat → Nat → Int} : Bar (detL n A) n A 1 1 := ⟨by decide, fun r ρ γ _ _ => ⟨_, by rw [Int.one_pow, Int.one_mul]⟩, fun t _ => by rw [Int.one_pow]⟩
theorem Bar.exact {L : Int} {m : Nat} {X : Nat → Nat → Int} {d s : Int} (B : Bar L m X d s) {i j : Nat} (hi : i + 1 < m) (hj : j + 1 < m) : ∃ c, chioY X i j = d * c := by
  obtain ⟨c, hc⟩ := B.dv 1 (fun k => if k = 0 then 0 else i + 1) (fun k => if k = 0 then 0 else j + 1) (fun k _ => by show (if k = 0 then 0 else i + 1) < m; split <;> omega) (fun k _ => by show (if k = 0 then 0 else j + 1) < m; split <;> omega)
  refine ⟨c, ?_⟩
  have h := hc
  rw [detL_two] at h
  unfold chioY
  simp at h
  rw [Int.pow_succ, Int.pow_zero, Int.one_mul] at h
  rw [← h]
  grind
theorem pow_ne {d : Int} (h : d ≠ 0) : ∀ n : Nat, d ^ n ≠ 0
  | 0 => by rw [Int.pow_zero]; decide
  | n + 1 => by
    rw [Int.pow_succ]
    exact Int.mul_ne_zero (pow_ne h n) h
theorem Bar.zero {L : Int} {m : Nat} {X : Nat → Nat → Int} {d s : Int} (B : Bar L m X d s) (hm : 1 ≤ m) (h : ∀ i, i < m → X i 0 = 0) : L = 0 := by
  obtain ⟨t, rfl⟩ : ∃ t, m = t + 1 := ⟨m - 1, by omega⟩
  have h1 := B.dt t rfl
  rw [detL_col0 (by omega) h, Int.mul_zero] at h1
  exact (Int.mul_eq_zero.mp h1.symm).resolve_left (pow_ne B.d0 t)
theorem Bar.last {L : Int} {X : Nat → Nat → Int} {d s : Int} (B : Bar L 1 X d s) : s * X 0 0 = L := by
  have h1 := B.dt 0 rfl
  rw [detL_one, Int.pow_zero, Int.one_mul] at h1
  exact h1
theorem Bar.swap {L : Int} {m p : Nat} {X : Nat → Nat → Int} {d s : Int} (B : Bar L m X d s) (hp : p < m) (hne : 0 < p) : Bar L m (setR (setR X 0 (X p)) p (X 0)) d (0 - s) := by
  refine ⟨B.d0, fun r ρ γ hr hg => ?_, fun t ht => ?_⟩
  · have h1 : ∀ i j, setR (setR X 0 (X p)) p (X 0) i j = X (if i = p then 0 else if i = 0 then p else i) j := fun i j => by
      unfold setR
      by_cases e : i = p
      · rw [if_pos e, if_pos e]
      · by_cases e2 : i = 0
        · rw [if_neg e, if_neg e, if_pos e2, if_pos e2]
        · rw [if_neg e, if_neg e, if_neg e2, if_neg e2]
    obtain ⟨c, hc⟩ := B.dv r (fun i => if ρ i = p then 0 else if ρ i = 0 then p else ρ i) γ (fun i hi => by
      have := hr i hi
      show (if ρ i = p then 0 else if ρ i = 0 then p else ρ i) < m
      split
      · omega
      · split <;> omega) hg
    refine ⟨c, ?_⟩
    rw [← hc]
    exact detL_congr fun i j _ _ => h1 _ _
  · rw [detL_swap (by omega) hp (by omega)]
    have := B.dt t ht
    rw [← this]
    grind
theorem Bar.step {L : Int} {m : Nat} {X X' : Nat → Nat → Int} {d s : Int} (B : Bar L (m + 1) X d s) (hp : X 0 0 ≠ 0) (h : ∀ i j, i < m → j < m → d * X' i j = chioY X i j) : Bar L m X' (X 0 0) s := by
  refine ⟨hp, fun r ρ γ hr hg => ?_, fun t ht => ?_⟩
  · obtain ⟨c, hc⟩ := B.dv (r + 1) (fun i => if i = 0 then 0 else ρ (i - 1) + 1) (fun i => if i = 0 then 0 else γ (i - 1) + 1)
      (fun i hi => by
        show (if i = 0 then 0 else ρ (i - 1) + 1) < m + 1
        split
        · omega
        · have := hr (i - 1) (by omega)
          omega)
      (fun i hi => by
        show (if i = 0 then 0 else γ (i - 1) + 1) < m + 1
        split
        · omega
        · have := hg (i - 1) (by omega)
          omega)
    have h1 := chio (r := r + 1) (X := fun i j => X (if i = 0 then 0 else ρ (i - 1) + 1) (if j = 0 then 0 else γ (j - 1) + 1))
    rw [hc] at h1
    have h2 : detL (r + 1) (chioY fun i j => X (if i = 0 then 0 else ρ (i - 1) + 1) (if j = 0 then 0 else γ (j - 1) + 1)) = detL (r + 1) fun i j => d * X' (ρ i) (γ j) := detL_congr fun i j hi hj => by
      rw [h _ _ (hr i hi) (hg j hj)]
      unfold chioY
      simp
    rw [h2, detL_scale] at h1
    have h1 : X 0 0 ^ (r + 1) * (d ^ (r + 1) * c) = X 0 0 * (d ^ (r + 1) * detL (r + 1) fun i j => X' (ρ i) (γ j)) := h1
    refine ⟨c, ?_⟩
    have h3 : (X 0 0 * d ^ (r + 1)) * (detL (r + 1) fun i j => X' (ρ i) (γ j)) = (X 0 0 * d ^ (r + 1)) * (X 0 0 ^ r * c) := by
      rw [Int.pow_succ (X 0 0)] at h1
      grind
    exact Int.eq_of_mul_eq_mul_left (Int.mul_ne_zero hp (pow_ne B.d0 _)) h3
  · have h1 := chio (r := m) (X := X)
    have h2 : detL m (chioY X) = d ^ m * detL m X' := by
      rw [← detL_scale]
      exact detL_congr fun i j hi hj => (h i j hi hj).symm
    have h3 := B.dt m rfl
    rw [h2] at h1
    have h4 : (X 0 0 * d ^ m) * (s * detL m X') = (X 0 0 * d ^ m) * (X 0 0 ^ t * L) := by
      have h5 : X 0 0 ^ m = X 0 0 ^ t * X 0 0 := by rw [ht, Int.pow_succ]
      rw [h5] at h1
      have : s * (X 0 0 ^ t * X 0 0 * detL (m + 1) X) = s * (X 0 0 * (d ^ m * detL m X')) := by rw [h1]
      generalize detL m X' = u at *
      generalize detL (m + 1) X = v at *
      generalize X 0 0 ^ t = w at *
      generalize d ^ m = z at *
      generalize X 0 0 = p at *
      have e : s * (w * p * v) = w * p * (s * v) := by grind
      rw [e, h3] at this
      grind
    exact Int.eq_of_mul_eq_mul_left (Int.mul_ne_zero hp (pow_ne B.d0 _)) h4
end AT

/-! ## clearing rows: the whole matrix, the numbers' size -/
namespace AT
open PySem
def bt : Nat → Nat
  | 0 => 7
  | k + 1 => 2 * bt k + 1
theorem bt_pos : ∀ k, 0 < bt k
  | 0 => by decide
  | k + 1 => by show 0 < 2 * bt k + 1; omega
theorem bt_mono {i j : Nat} (h : i ≤ j) : bt i ≤ bt j := by
  induction h with
  | refl => exact Nat.le_refl _
  | step _ ih => exact Nat.le_trans ih (by show _ ≤ 2 * bt _ + 1; omega)
/-- the state at step k: the rows from k on are what is left -/
structure DI (n : Nat) (L : Int) (k : Nat) (R : Nat → Nat → Int) (d s : Int) : Prop where
  lt : k < n
  bar : Bar L (n - k) (fun i j => R (k + i) (k + j)) d s
  zer : ∀ i j, k ≤ i → i < n → j < k → R i j = 0
  bd : ∀ i j, k ≤ i → i < n → j < n → (R i j).natAbs < 2 ^ bt k
  db : d.natAbs < 2 ^ bt k
  sb : s.natAbs = 1
theorem DI.start {n : Nat} {f : Nat → Nat → Int} (hn : 1 ≤ n) (hb : ∀ i j, i < n → j < n → (f i j).natAbs < 2 ^ 7) : DI n (detL n f) 0 f 1 1 :=
  ⟨hn, by
    have : (fun i j => f (0 + i) (0 + j)) = f := funext fun i => funext fun j => by rw [Nat.zero_add, Nat.zero_add]
    rw [this, Nat.sub_zero]
    exact Bar.start, fun _ _ _ _ h => absurd h (Nat.not_lt_zero _), fun i j _ hi hj => hb i j hi hj, by decide, by decide⟩
theorem DI.none {n k : Nat} {L : Int} {R : Nat → Nat → Int} {d s : Int} (D : DI n L k R d s) (h : ∀ i, k ≤ i → i < n → R i k = 0) : L = 0 :=
  D.bar.zero (by have := D.lt; omega) fun i hi => h (k + i) (by omega) (by omega)
def exR (R : Nat → Nat → Int) (k a : Nat) : Nat → Nat → Int := fun i j => if i = a then R k j else if i = k then R a j else R i j
theorem DI.swap {n k a : Nat} {L : Int} {R : Nat → Nat → Int} {d s : Int} (D : DI n L k R d s) (hk : k < a) (ha : a < n) : DI n L k (exR R k a) d (0 - s) := by
  refine ⟨D.lt, ?_, fun i j hi hn hj => ?_, fun i j hi hn hj => ?_, D.db, ?_⟩
  · have h := D.bar.swap (p := a - k) (by omega) (by omega)
    have e : (fun i j => exR R k a (k + i) (k + j)) = setR (setR (fun i j => R (k + i) (k + j)) 0 fun j => R (k + (a - k)) (k + j)) (a - k) fun j => R (k + 0) (k + j) := funext fun i => funext fun j => by
      unfold exR setR
      by_cases e1 : i = a - k
      · rw [if_pos (by omega), if_pos e1]
        rfl
      · rw [if_neg (by omega), if_neg e1]
        by_cases e2 : i = 0
        · subst e2
          rw [if_pos (by omega), if_pos rfl, show k + (a - k) = a by omega]
        · rw [if_neg (by omega), if_neg e2]
    rw [e]
    exact h
  · unfold exR
    split
    · exact D.zer k j (Nat.le_refl _) D.lt hj
    · split
      · exact D.zer a j (by omega) ha hj
      · exact D.zer i j hi hn hj
  · unfold exR
    split
    · exact D.bd k j (Nat.le_refl _) D.lt hj
    · split
      · exact D.bd a j (by omega) ha hj
      · exact D.bd i j hi hn hj
  · have := D.sb
    omega
def xnR (R : Nat → Nat → Int) (d : Int) (k i j : Nat) : Int := (R k k * R i j - R i k * R k j).fdiv d
def mixR (R : Nat → Nat → Int) (d : Int) (k u : Nat) : Nat → Nat → Int := fun i j => if k < i ∧ i < u then xnR R d k i j else R i j
theorem DI.ex {n k i j : Nat} {L : Int} {R : Nat → Nat → Int} {d s : Int} (D : DI n L k R d s) (hi : k < i) (hin : i < n) (hj : j < n) : d * xnR R d k i j = R k k * R i j - R i k * R k j := by
  have key : ∀ c, R k k * R i j - R i k * R k j = d * c → d * xnR R d k i j = R k k * R i j - R i k * R k j := fun c hc => by
    unfold xnR
    rw [hc, Int.mul_fdiv_cancel_left _ D.bar.d0]
  by_cases h : j ≤ k
  · have e : R k k * R i j - R i k * R k j = 0 := by
      by_cases e : j = k
      · subst e
        grind
      · rw [D.zer i j (by omega) hin (by omega), D.zer k j (Nat.le_refl _) D.lt (by omega)]
        omega
    exact key 0 (by rw [e]; omega)
  · obtain ⟨c, hc⟩ := D.bar.exact (i := i - k - 1) (j := j - k - 1) (by omega) (by omega)
    unfold chioY at hc
    dsimp only at hc
    rw [show k + (i - k - 1 + 1) = i by omega, show k + (j - k - 1 + 1) = j by omega, Nat.add_zero] at hc
    exact key c hc
theorem nat_mul_lt {a b c e : Nat} (h1 : a < 2 ^ c) (h2 : b < 2 ^ e) : a * b < 2 ^ (c + e) := by
  rw [Nat.pow_add]
  exact Nat.lt_of_le_of_lt (Nat.mul_le_mul_right b (Nat.le_of_lt h1)) (Nat.mul_lt_mul_of_pos_left h2 (Nat.two_pow_pos c))
theorem DI.xbd {n k i j : Nat} {L : Int} {R : Nat → Nat → Int} {d s : Int} (D : DI n L k R d s) (hi : k < i) (hin : i < n) (hj : j < n) : (xnR R d k i j).natAbs < 2 ^ bt (k + 1) := by
  have h := D.ex hi hin hj
  have h1 := nat_mul_lt (D.bd k k (Nat.le_refl _) D.lt D.lt) (D.bd i j (by omega) hin hj)
  have h2 := nat_mul_lt (D.bd i k (by omega) hin D.lt) (D.bd k j (Nat.le_refl _) D.lt hj)
  rw [← Int.natAbs_mul] at h1 h2
  have h3 : (d * xnR R d k i j).natAbs < 2 ^ bt (k + 1) := by
    rw [h]
    have e : (2 : Nat) ^ bt (k + 1) = 2 ^ (bt k + bt k) + 2 ^ (bt k + bt k) := by
      show 2 ^ (2 * bt k + 1) = _
      rw [Nat.pow_succ, show 2 * bt k = bt k + bt k by omega]
      omega
    rw [e]
    omega
  rw [Int.natAbs_mul] at h3
  have hd : 1 ≤ d.natAbs := by
    have := D.bar.d0
    omega
  exact Nat.lt_of_le_of_lt (Nat.le_mul_of_pos_left _ hd) h3
theorem DI.step {n k : Nat} {L : Int} {R : Nat → Nat → Int} {d s : Int} (D : DI n L k R d s) (hp : R k k ≠ 0) (hk : k + 1 < n) : DI n L (k + 1) (mixR R d k n) (R k k) s := by
  have hm : ∀ i j, k < i → i < n → mixR R d k n i j = xnR R d k i j := fun i j h1 h2 => by
    unfold mixR
    rw [if_pos ⟨h1, h2⟩]
  refine ⟨hk, ?_, fun i j hi hn hj => ?_, fun i j hi hn hj => ?_, ?_, D.sb⟩
  · have B := D.bar
    rw [show n - k = (n - (k + 1)) + 1 by omega] at B
    have hp' : (fun i j => R (k + i) (k + j)) 0 0 ≠ 0 := hp
    have := B.step (X' := fun i j => mixR R d k n (k + 1 + i) (k + 1 + j)) hp' fun i j hi hj => by
      show d * mixR R d k n (k + 1 + i) (k + 1 + j) = _
      rw [hm _ _ (by omega) (by omega), D.ex (by omega) (by omega) (by omega)]
      unfold chioY
      dsimp only
      rw [show k + (i + 1) = k + 1 + i by omega, show k + (j + 1) = k + 1 + j by omega]
      rfl
    exact this
  · rw [hm _ _ (by omega) hn]
    have h := D.ex (i := i) (j := j) (by omega) hn (by have := D.lt; omega)
    have e : R k k * R i j - R i k * R k j = 0 := by
      by_cases e : j = k
      · subst e
        grind
      · rw [D.zer i j (by omega) hn (by omega), D.zer k j (Nat.le_refl _) D.lt (by omega)]
        omega
    rw [e] at h
    exact (Int.mul_eq_zero.mp h).resolve_left D.bar.d0
  · rw [hm _ _ (by omega) hn]
    exact D.xbd (by omega) hn hj
  · exact Nat.lt_of_lt_of_le (D.bd k k (Nat.le_refl _) D.lt D.lt) (Nat.pow_le_pow_right (by decide) (bt_mono (Nat.le_succ k)))
theorem DI.last {n k : Nat} {L : Int} {R : Nat → Nat → Int} {d s : Int} (D : DI n L k R d s) (hk : k + 1 = n) : s * R k k = L := by
  have B := D.bar
  rw [show n - k = 1 by omega] at B
  exact B.last
end AT

/-! ## determinant -/
namespace AT
open PySem PySem.Spec PyProof.Rows L2 Evl
def sp_determinant (K : Frag) : Sp := fun vs H Q _ => ∃ a n f, vs = [.ref a] ∧ LLI K H a (Fm n f) ∧ 1 ≤ n ∧ n ≤ 6 ∧ (∀ i j, i < n → j < n → (f i j).natAbs < 2 ^ 7) ∧ ∀ H', Ex H H' → Q (.int (detL n f)) H'
theorem fm_set {n i : Nat} {R R' : Nat → Nat → Int} {w : Nat → Int} (hw : ∀ j, j < n → R' i j = w j) (ho : ∀ a j, a < n → a ≠ i → j < n → R' a j = R a j) : (Fm n R).set i ((List.range n).map w) = Fm n R' := by
  refine List.ext_getElem? fun a => ?_
  by_cases h : a < n
  · rw [fm_get h]
    by_cases e : a = i
    · subst e
      rw [List.getElem?_set_self (by rw [fm_len]; exact h)]
      exact congrArg some (List.map_congr_left fun j hj => (hw j (List.mem_range.mp hj)).symm)
    · rw [List.getElem?_set_ne (Ne.symm e), fm_get h]
      exact congrArg some (List.map_congr_left fun j hj => (ho a j h e (List.mem_range.mp hj)).symm)
  · rw [List.getElem?_eq_none (by rw [List.length_set, fm_len]; omega), List.getElem?_eq_none (by rw [fm_len]; omega)]
theorem bt6 {k : Nat} (h : k ≤ 6) : bt k ≤ 511 := Nat.le_trans (bt_mono h) (by decide)
section
variable {P : Program} {w : World} {K : Frag} {mg : Str → Option Value} {base : Heap} {k : Nat}
theorem ok_determinant (T : Txt K mg) : FnOk P w K mg base CX0 (k + 1) T.f_determinant T.d_determinant ["form"] (sp_determinant K) := by
  refine T.F_determinant.ok sc_determinant (fun vs H Q E h => ?_) (fun cdv A outer s H vs Q E hr h => ?_)
  · obtain ⟨a, n, f, rfl, _⟩ := h
    rfl
  · obtain ⟨a, n, f, rfl, hM, hn1, hn6, hb, q⟩ := h
    refine ⟨_, (pss_cons (ps_set (i := 1) sc_determinant.nd rfl (.inr rfl) (pe_lc (own := [("row", 9)]) rfl sc_determinant.nd (pi_listK K (pv 0)) (blkOk_by (own := [("row", 9)]) (N := N_determinant) (sc := defScope s_determinant) (by decide +kernel)) (fun _ _ _ _ _ => (pg_name (i := 9) sc_determinant.nd rfl (.inl rfl))) (fun _ _ _ _ _ => pts_nil) (fun _ _ _ _ _ => (pe_callTy (listK K) rfl T.b_list (by decide +kernel) (pa_cons (pv 9) pa_nil)))))
      (pss_cons (ps_set (i := 2) sc_determinant.nd rfl (.inl rfl) pe_int)
      (pss_cons (ps_set (i := 3) sc_determinant.nd rfl (.inr rfl) pe_int)
      (pss_cons (ps_for PassesOwn.never rfl (pi_range1 rfl T.b_range (pa_cons (pe_callB (lenK K) rfl T.b_len PySem.boot_len (pa_cons (pv 1) pa_nil)) pa_nil)) (pg_name (i := 4) sc_determinant.nd rfl (.inr rfl))
        (pss_cons (ps_set (i := 5) sc_determinant.nd rfl (.inl rfl) (pv 4))
      (pss_cons (ps_while PassesOwn.never (PW.pt (pw_and (pt_cmpR op_lt (pv 5) (pe_callB (lenK K) rfl T.b_len PySem.boot_len (pa_cons (pv 1) pa_nil)) (nomark _)) (pw_and1 (pt_cmpR op_eq (pe_ix (ixL K) (pe_ix (ixL K) (pv 1) (pv 5) (fun _ _ => rfl)) (pv 4) (fun _ _ => rfl)) pe_int (nomark _)))))
        (pss_one (ps_set (i := 5) sc_determinant.nd rfl (.inl rfl) (pe_op op_add (pv 5) pe_int))))
      (pss_cons (ps_if (pt_cmpR op_eq (pv 5) (pe_callB (lenK K) rfl T.b_len PySem.boot_len (pa_cons (pv 1) pa_nil)) (nomark _))
        (pss_one (ps_ret pe_int))
        pss_nil)
      (pss_cut (ps_if (pt_cmpR op_gt (pv 5) (pv 4) (nomark _))
        (pss_cons (ps_set (i := 6) sc_determinant.nd rfl (.inl rfl) (pe_ix (ixL K) (pv 1) (pv 4) (fun _ _ => rfl)))
      (pss_cons (ps_asg (pe_ix (ixL K) (pv 1) (pv 5) (fun _ _ => rfl)) (pg_sub (pv 1) (pv 4) set_list))
      (pss_cons (ps_asg (pv 6) (pg_sub (pv 1) (pv 5) set_list))
      (pss_one (ps_set (i := 2) sc_determinant.nd rfl (.inl rfl) (pe_op op_sub pe_int (pv 2)))))))
        pss_nil)
      (pss_cons (ps_for PassesOwn.never rfl (pi_range2 rfl T.b_range (pa_cons (pe_op op_add (pv 4) pe_int) (pa_cons (pe_callB (lenK K) rfl T.b_len PySem.boot_len (pa_cons (pv 1) pa_nil)) pa_nil))) (pg_name (i := 7) sc_determinant.nd rfl (.inl rfl))
        (pss_cons (ps_set (i := 8) sc_determinant.nd rfl (.inr rfl) (pe_ix (ixL K) (pe_ix (ixL K) (pv 1) (pv 7) (fun _ _ => rfl)) (pv 4) (fun _ _ => rfl)))
      (pss_one (ps_asg (pe_lc (own := [("one", 10), ("other", 11)]) rfl sc_determinant.nd (pi_zipK K rfl T.b_zip (pa_cons (pe_ix (ixL K) (pv 1) (pv 7) (fun _ _ => rfl)) (pa_cons (pe_ix (ixL K) (pv 1) (pv 4) (fun _ _ => rfl)) pa_nil))) (blkOk_by (own := [("one", 10), ("other", 11)]) (N := N_determinant) (sc := defScope s_determinant) (by decide +kernel)) (fun _ _ _ _ _ => (pg_tupK K (n := 2) rfl (pgs_cons (pg_name (i := 10) sc_determinant.nd rfl (.inl rfl)) (pgs_cons (pg_name (i := 11) sc_determinant.nd rfl (.inl rfl)) pgs_nil)))) (fun _ _ _ _ _ => pts_nil) (fun _ _ _ _ _ => (pe_op op_fdivX (pe_op op_sub (pe_op op_mulW (pe_ix (ixL K) (pe_ix (ixL K) (pv 1) (pv 4) (fun _ _ => rfl)) (pv 4) (fun _ _ => rfl)) (pv 10)) (pe_op op_mulW (pv 8) (pv 11))) (pv 3)))) (pg_sub (pv 1) (pv 7) set_list)))))
      (pss_one (ps_set (i := 3) sc_determinant.nd rfl (.inr rfl) (pe_ix (ixL K) (pe_ix (ixL K) (pv 1) (pv 4) (fun _ _ => rfl)) (pv 4) (fun _ _ => rfl))))))))))
      (pss_one (ps_ret (pe_op op_mulW (pv 2) (pv 3)))))))), ?_⟩
    refine qr_asg (R := RM (Fm n f)) ?_ fun v H1 e1 ⟨p, hv, hO⟩ => ?_
    · obtain ⟨as, hA, hP⟩ := id hM
      have hlen := hP.length
      have := em_lcL (K := K) (te := tCB (rListS K) (tCons (tVar 9) tNil)) (fun i => (Fm n f).getD i []) (ev_var (σ := [some (V.ref a), none, none, none, none, none, none, none, none, none, none, none]) (i := 0) (H := H) rfl) hA (by rw [List.length_map, hlen, fm_len]; omega) (fun _ => rfl) (fun i x H1 e1 hx => er_of_evl ?_) (j := 9) (vs := [9])
      · rw [List.length_map, hlen, ← list_eq_range] at this
        exact this
      · rw [List.getElem?_map] at hx
        cases hy : as[i]? with
        | none => rw [hy] at hx; cases hx
        | some y =>
          rw [hy] at hx
          cases hx
          obtain ⟨r, h1, h2⟩ := paired_getL hP hy
          rw [List.getD_eq_getElem?_getD, h1]
          exact el_list (ev_var rfl) (h2.mono e1)
    subst hv
    refine q_asg ev_c fun H2 e2 => q_asg ev_c fun H3 e3 => ?_
    have hRA : RA H H3 p (Fm n f) := (hO.ra.mono e2).mono e3
    have eH3 := (e1.trans e2).trans e3
    refine q_forR1 (n := (n : Int)) (ea_cons (ev_lenFm (ev_var rfl) hRA.lli) ea_nil) (by omega) (fun k σ' H' => ∃ s d x4 x5 x6 x7 x8, σ' = [some (.ref a), some (.ref p), some (.int s), some (.int d), x4, x5, x6, x7, x8, none, none, none] ∧ Ex H H' ∧
        ((k < n ∧ ∃ R, RA H H' p (Fm n R) ∧ DI n (detL n f) k R d s) ∨ (k = n ∧ s * d = detL n f ∧ s.natAbs = 1 ∧ d.natAbs < 2 ^ 511)))
      (fun H4 e4 => ⟨1, 1, _, _, _, _, _, rfl, eH3.trans e4, .inl ⟨by omega, f, hRA.mono e4, DI.start hn1 hb⟩⟩) (fun k σ' H' hk hP => ?_) (fun σ' H' hP => ?_)
    · obtain ⟨s, d, x4, x5, x6, x7, x8, rfl, eH, hI⟩ := hP
      have hkn : k < n := by omega
      obtain ⟨_, R, hR, hD⟩ := hI.resolve_right (by omega)
      have hbk := bt6 (k := k) (by omega)
      refine q_asg (ev_var rfl) fun H4 e4 => ?_
      have hR4 := hR.mono e4
      refine q_while (fun m σ2 H2 => ∃ at_ : Nat, m = n - at_ ∧ k ≤ at_ ∧ at_ ≤ n ∧ σ2 = [some (.ref a), some (.ref p), some (.int s), some (.int d), some (.int (k : Int)), some (.int (at_ : Int)), x6, x7, x8, none, none, none] ∧ Ex H4 H2 ∧ ∀ i, k ≤ i → i < at_ → R i k = 0) (n - k)
        ⟨k, rfl, Nat.le_refl _, by omega, rfl, Ex.refl _, fun i h1 h2 => absurd h1 (by omega)⟩ fun m σ2 H2 hW => ?_
      obtain ⟨u, rfl, hu1, hu2, rfl, e5, hz⟩ := hW
      have hR5 := hR4.mono e5
      refine ⟨decide ((u : Int) < (n : Int)) && decide (V.int (R u k) = V.int 0), et_and (et_test (ev_op (ev_var rfl) (ev_lenFm (ev_var rfl) hR5.lli) rv_I0)) fun hb => et_test (ev_op (ev_fm (n := n) (f := R) (i := u) (j := k) (ev_var rfl) (ev_var rfl) (ev_var rfl) hR5.lli (by rw [decide_eq_true_eq] at hb; omega) hkn) ev_c (rv_eq rfl)), fun hb H6 e6 => ?_, fun hb H6 e6 => ?_⟩
      · simp only [Bool.and_eq_true, decide_eq_true_eq] at hb
        refine ⟨fun σ3 H3 => ∃ at_ : Nat, n - (u + 1) = n - at_ ∧ k ≤ at_ ∧ at_ ≤ n ∧ σ3 = [some (.ref a), some (.ref p), some (.int s), some (.int d), some (.int (k : Int)), some (.int (at_ : Int)), x6, x7, x8, none, none, none] ∧ Ex H4 H3 ∧ ∀ i, k ≤ i → i < at_ → R i k = 0, fun σ3 H3 h => ⟨n - (u + 1), by omega, h⟩, ?_⟩
        refine s_asg (ev_op (ev_var rfl) ev_c rv_I0) fun H7 e7 => ⟨u + 1, rfl, by omega, by omega, rfl, (e5.trans e6).trans e7, fun i h1 h2 => ?_⟩
        by_cases e : i = u
        · rw [e]
          have := hb.2
          injection this
        · exact hz i h1 (by omega)
      · have hR6 := hR5.mono e6
        refine q_when (et_test (ev_op (ev_var rfl) (ev_lenFm (ev_var rfl) hR6.lli) (rv_eq rfl))) (fun hc H7 e7 => s_ret ev_c fun H8 e8 => ?_) (fun hc H7 e7 => ?_)
        · rw [decide_eq_true_eq] at hc
          have hun : u = n := by injection hc with hc; omega
          have := hD.none fun i h1 h2 => hz i h1 (by omega)
          have q' := q H8 ((((eH.trans e4).trans e5).trans e6).trans (e7.trans e8))
          rw [this] at q'
          exact q'
        · have hun : u < n := by
            rcases Nat.lt_or_ge u n with h | h
            · exact h
            · have : u = n := by omega
              rw [this] at hc
              simp at hc
          have hRu : R u k ≠ 0 := fun z => by
            rw [z, decide_eq_true (show (u : Int) < (n : Int) by omega), decide_eq_true rfl] at hb
            cases hb
          have e47 := (e5.trans e6).trans e7
          have hR7 := hR6.mono e7
          have eH7 := (eH.trans e4).trans e47
          refine q_cut (M := fun σ' H' => ∃ R s x6, σ' = [some (.ref a), some (.ref p), some (.int s), some (.int d), some (.int (k : Int)), some (.int (u : Int)), x6, x7, x8, none, none, none] ∧ Ex H H' ∧ RA H H' p (Fm n R) ∧ DI n (detL n f) k R d s ∧ R k k ≠ 0) ?_ fun σ' H8 hP => ?_
          · refine s_when (et_test (ev_op (ev_var rfl) (ev_var rfl) rv_I0)) (fun hg H8 e8 => ?_) (fun hg H8 e8 => ?_)
            · rw [decide_eq_true_eq] at hg
              have hku : k < u := by omega
              have hR8 := hR7.mono e8
              obtain ⟨h0, as, h1, h2, h3⟩ := id hR8
              obtain ⟨x, hx1, hx2⟩ := paired_get h3 (fm_get hkn)
              obtain ⟨y, hy1, hy2⟩ := paired_get h3 (fm_get hun)
              have hxp : x ≠ p := fun z => h2 (z ▸ List.mem_of_getElem? hx1)
              have hyp : y ≠ p := fun z => h2 (z ▸ List.mem_of_getElem? hy1)
              refine q_asg (ev_op (ev_var rfl) (ev_var rfl) (rv_ixL (sq_of h1) (atI_n (by rw [List.getElem?_map, hx1]; rfl)))) fun H9 e9 => ?_
              refine q_setRef (i := k) (hR8.mono e9) (ev_op (ev_var rfl) (ev_var rfl) (rv_ixL (sq_of (e9 _ _ h1)) (atI_n (by rw [List.getElem?_map, hy1]; rfl)))) (e9 _ _ hy2) hyp (ev_var rfl) (ev_var rfl) (by rw [fm_len]; exact hkn) ((eH7.trans e8).trans e9) fun H10 e10 hR10 hk10 => ?_
              refine q_setRef (i := u) hR10 (ev_var rfl) (hk10 _ _ hxp (e9 _ _ hx2)) hxp (ev_var rfl) (ev_var rfl) (by rw [List.length_set, fm_len]; exact hun) e10 fun H11 e11 hR11 _ => ?_
              refine s_asg (ev_op ev_c (ev_var rfl) rv_I0) fun H12 e12 => ⟨exR R k u, 0 - s, _, rfl, e11.trans e12, ?_, hD.swap hku hun, ?_⟩
              · have e1 : (Fm n R).set k ((List.range n).map (R u)) = Fm n (fun i j => if i = k then R u j else R i j) := fm_set (fun j _ => if_pos rfl) fun a j _ hne _ => if_neg hne
                rw [e1, fm_set (R' := exR R k u) (fun j _ => by unfold exR; rw [if_pos rfl]) fun a j _ hne _ => by unfold exR; rw [if_neg hne]] at hR11
                exact hR11.mono e12
              · unfold exR
                rw [if_neg (by omega), if_pos rfl]
                exact hRu
            · rw [decide_eq_false_iff_not] at hg
              have : u = k := by omega
              subst this
              exact ⟨R, s, _, rfl, eH7.trans e8, hR7.mono e8, hD, hRu⟩
          · clear hRu hz hb hR7 hR6 hR5 hR4 hR hD hI
            obtain ⟨R, s, x6, rfl, eH8, hR8, hD, hp⟩ := hP
            refine q_forR2 (lo := (k : Int) + 1) (n := (n : Int)) (ea_cons (ev_op (ev_var rfl) ev_c rv_I0) (ea_cons (ev_lenFm (ev_var rfl) hR8.lli) ea_nil)) (by omega) (fun t σ' H' => ∃ x7 x8, σ' = [some (.ref a), some (.ref p), some (.int s), some (.int d), some (.int (k : Int)), some (.int (u : Int)), x6, x7, x8, none, none, none] ∧ Ex H H' ∧ RA H H' p (Fm n (mixR R d k (k + 1 + t))))
              (fun H9 e9 => ⟨_, _, rfl, eH8.trans e9, ?_⟩) (fun t σ' H9 ht hP => ?_) (fun σ' H9 hP => ?_)
            · have : Fm n (mixR R d k (k + 1 + 0)) = Fm n R := fm_ext fun i j _ _ => by unfold mixR; rw [if_neg (by omega)]
              rw [this]
              exact hR8.mono e9
            · obtain ⟨x7, x8, rfl, eH9, hR9⟩ := hP
              have hin : k + 1 + t < n := by omega
              have ei : (k : Int) + 1 + (t : Int) = ((k + 1 + t : Nat) : Int) := by omega
              rw [ei]
              generalize hi : k + 1 + t = i at *
              have hki : k < i := by omega
              have hMi : mixR R d k i i = R i := funext fun j => by unfold mixR; rw [if_neg (by omega)]
              have hMk : mixR R d k i k = R k := funext fun j => by unfold mixR; rw [if_neg (by omega)]
              refine q_asg (ev_fm (n := n) (f := mixR R d k i) (i := i) (j := k) (ev_var rfl) (ev_var rfl) (ev_var rfl) hR9.lli hin hkn) fun H10 e10 => ?_
              have hR10 := hR9.mono e10
              obtain ⟨h0, as, h1, h2, h3⟩ := id hR10
              obtain ⟨x, hx1, hx2⟩ := paired_get h3 (fm_get hin)
              obtain ⟨y, hy1, hy2⟩ := paired_get h3 (fm_get hkn)
              rw [hMi] at hx2
              rw [hMk] at hy2
              have hbR := hD.bd
              have hcell : ∀ j : Nat, j < n → ∀ (σ : St) (H11 : Hp), Ex H10 H11 → σ[1]? = some (some (V.ref p)) → σ[4]? = some (some (.int (k : Int))) → σ[8]? = some (some (.int (mixR R d k i i k))) → σ[3]? = some (some (.int d)) → σ[10]? = some (some (.int (R i j))) → σ[11]? = some (some (.int (R k j))) →
                  Ev (tOp (rI CFdX fun i j => .int (i.fdiv j)) (tOp (rI0 fun i j => .int (i - j)) (tOp (rI CMulW fun i j => .int (i * j)) (tOp (rIxL K) (tOp (rIxL K) (tVar 1) (tVar 4)) (tVar 4)) (tVar 10)) (tOp (rI CMulW fun i j => .int (i * j)) (tVar 8) (tVar 11))) (tVar 3)) σ H11 (.int (xnR R d k i j)) := fun j hj σ H11 e11 s1 s4 s8 s3 s10 s11 => by
                have hkk : Ev (tOp (rIxL K) (tOp (rIxL K) (tVar 1) (tVar 4)) (tVar 4)) σ H11 (.int (R k k)) := by
                  have := ev_fm (K := K) (n := n) (f := mixR R d k i) (i := k) (j := k) (ev_var s1) (ev_var s4) (ev_var s4) (hR10.mono e11).lli hkn hkn
                  rw [hMk] at this
                  exact this
                rw [hMi] at s8
                refine ev_op (ev_op (ev_op hkk (ev_var s10) (rv_I (wide_mul (hbR k k (Nat.le_refl _) hkn hkn) (hbR i j (by omega) hin hj) (bt_pos k) (bt_pos k) (by omega)))) (ev_op (ev_var s8) (ev_var s11) (rv_I (wide_mul (hbR i k (by omega) hin hkn) (hbR k j (Nat.le_refl _) hkn hj) (bt_pos k) (bt_pos k) (by omega)))) rv_I0) (ev_var s3) (rv_I ?_)
                exact ⟨hD.bar.d0, Nat.lt_of_lt_of_le (PySem.Flt.log2_lt_of (bt_pos k) hD.db) (by omega)⟩
              refine s_setRow (i := i) (row := (List.range n).map (xnR R d k i)) hR10 ?_ (ev_var rfl) (ev_var rfl) (by rw [fm_len]; exact hin) (eH9.trans e10) fun H11 e11 hR11 => ⟨_, _, rfl, e11, ?_⟩
              · have := el_lcZ (K := K) (te := tOp (rI CFdX fun i j => .int (i.fdiv j)) (tOp (rI0 fun i j => .int (i - j)) (tOp (rI CMulW fun i j => .int (i * j)) (tOp (rIxL K) (tOp (rIxL K) (tVar 1) (tVar 4)) (tVar 4)) (tVar 10)) (tOp (rI CMulW fun i j => .int (i * j)) (tVar 8) (tVar 11))) (tVar 3)) (i1 := 10) (i2 := 11) (vs := [10, 11]) (a := x) (b := y)
                  (σ := [some (V.ref a), some (.ref p), some (.int s), some (.int d), some (.int (k : Int)), some (.int (u : Int)), x6, some (.int (i : Int)), some (.int (mixR R d k i i k)), none, none, none]) (H := H10)
                  (tA := tCons (tOp (rIxL K) (tVar 1) (tVar 7)) (tCons (tOp (rIxL K) (tVar 1) (tVar 4)) tNil)) (fun j => .int (xnR R d k i j))
                  (ea_cons (ev_op (ev_var rfl) (ev_var rfl) (rv_ixL (sq_of h1) (atI_n (by rw [List.getElem?_map, hx1]; rfl)))) (ea_cons (ev_op (ev_var rfl) (ev_var rfl) (rv_ixL (sq_of h1) (atI_n (by rw [List.getElem?_map, hy1]; rfl)))) ea_nil))
                  (sq_of hx2) (sq_of hy2) (by simp) (by simp; omega) (fun _ _ => rfl) (fun j v1 v2 H11 e11 hv1 hv2 => ?_)
                · rw [List.length_map, List.length_map, List.length_range, given_all] at this
                  exact this
                · have hj : j < n := by
                    have := (List.getElem?_eq_some_iff.mp hv1).1
                    simpa using this
                  rw [List.getElem?_map, List.getElem?_map, List.getElem?_range hj] at hv1 hv2
                  cases hv1
                  cases hv2
                  exact hcell j hj _ H11 e11 rfl rfl rfl rfl rfl rfl
              · have e : (Fm n (mixR R d k i)).set i ((List.range n).map (xnR R d k i)) = Fm n (mixR R d k (k + 1 + (t + 1))) := fm_set (fun j _ => by unfold mixR; rw [if_pos (by omega)]) fun a' j _ hne _ => by
                  unfold mixR
                  by_cases h : k < a' ∧ a' < i
                  · rw [if_pos h, if_pos (by omega)]
                  · rw [if_neg h, if_neg (by omega)]
                rw [e] at hR11
                exact hR11
            · obtain ⟨x7, x8, rfl, eH9, hR9⟩ := hP
              have et : k + 1 + ((n : Int) - ((k : Int) + 1)).toNat = n := by omega
              rw [et] at hR9
              have hMk : mixR R d k n k = R k := funext fun j => by unfold mixR; rw [if_neg (by omega)]
              have hkk := ev_fm (K := K) (n := n) (f := mixR R d k n) (i := k) (j := k) (ev_var (σ := [some (V.ref a), some (.ref p), some (.int s), some (.int d), some (.int (k : Int)), some (.int (u : Int)), x6, x7, x8, none, none, none]) (i := 1) rfl) (ev_var (v := .int (k : Int)) (i := 4) rfl) (ev_var (v := .int (k : Int)) (i := 4) rfl) hR9.lli hkn hkn
              rw [hMk] at hkk
              refine s_asg hkk fun H10 e10 => ⟨s, R k k, _, _, _, _, _, rfl, eH9.trans e10, ?_⟩
              by_cases hl : k + 1 < n
              · exact .inl ⟨hl, _, hR9.mono e10, hD.step hp hl⟩
              · exact .inr ⟨by omega, hD.last (by omega), hD.sb, Nat.lt_of_lt_of_le (hD.bd k k (Nat.le_refl _) hkn hkn) (Nat.pow_le_pow_right (by decide) hbk)⟩
    · obtain ⟨s, d, x4, x5, x6, x7, x8, rfl, eH, hI⟩ := hP
      obtain ⟨_, h1, h2, h3⟩ := hI.resolve_left (by simp)
      refine s_ret (ev_op (ev_var rfl) (ev_var rfl) (rv_I (wide_mul (a := 1) (b := 511) (by omega) h3 (by decide) (by decide) (by decide)))) fun H4 e4 => ?_
      rw [h1]
      exact q H4 (eH.trans e4)
end
end AT

/-! ## step_of, kept -/
namespace AT
open PySem PySem.Spec PyProof.Rows L2 Evl
def gcdL (xs : List Int) : Nat := xs.foldl (fun g x => Nat.gcd g x.natAbs) 0
def stepsOf (n : Nat) (f : Nat → Nat → Int) : List Int := (Fm n f).map fun r => ((gcdL r : Nat) : Int)
def sp_step_of (K : Frag) : Sp := fun vs H Q _ => ∃ (a : Addr) (xs : List Int), vs = [.ref a] ∧ LI K H a xs ∧ xs.length ≤ 1000 ∧ ∀ H', Ex H H' → Q (.int ((gcdL xs : Nat) : Int)) H'
def RKept (n : Nat) (f : Nat → Nat → Int) : R3 := fun H1 H2 v => ∃ t p, v = .ref t ∧ H1 t = none ∧ H2 t = some (.tup [.int (detL n f), .ref p]) ∧ OLI H1 H2 p (stepsOf n f)
def sp_kept (K : Frag) (CF : Addr) : Sp := fun vs H Q E => ∃ a M, vs = [.ref a] ∧ LLI K H a M ∧ SmallM M ∧ (¬ IsForm M → ∀ H', Ex H H' → E (.ref CF) none H') ∧ (∀ n f, M = Fm n f → FormOf n f → ∀ H' v, Ex H H' → RKept n f H H' v → Q v H')
theorem mon_RKept {n : Nat} {f : Nat → Nat → Int} : Mon (RKept n f) := ⟨fun e ⟨t, p, h, h0, h1, h2⟩ => ⟨t, p, h, h0, e _ _ h1, h2.mono e⟩, fun e ⟨t, p, h, h0, h1, h2⟩ => ⟨t, p, h, fresh_back e h0, h1, h2.back e⟩⟩
theorem detL_fm {n : Nat} {f g : Nat → Nat → Int} (h : Fm n f = Fm n g) : detL n f = detL n g := by
  obtain ⟨_, e⟩ := fm_inj h
  exact detL_congr e
section
variable {P : Program} {w : World} {K : Frag} {mg : Str → Option Value} {base : Heap} {k : Nat}
theorem ok_step_of (T : Txt K mg) : FnOk P w K mg base CX0 (k + 1) T.f_step_of T.d_step_of ["row"] (sp_step_of K) := by
  refine T.F_step_of.ok sc_step_of (fun vs H Q E h => ?_) (fun cdv A outer s H vs Q E hr h => ?_)
  · obtain ⟨a, xs, rfl, _⟩ := h
    rfl
  · obtain ⟨a, xs, rfl, hL, hl, q⟩ := h
    refine ⟨_, (pss_cons (ps_set (i := 1) sc_step_of.nd rfl (.inl rfl) pe_int)
      (pss_cons (ps_for PassesOwn.never rfl (pi_listK K (pv 0)) (pg_name (i := 2) sc_step_of.nd rfl (.inl rfl))
        (pss_cons (ps_set (i := 3) sc_step_of.nd rfl (.inl rfl) (pe_callB absK rfl T.b_abs (by decide +kernel) (pa_cons (pv 2) pa_nil)))
      (pss_one (ps_while PassesOwn.never (pt_cmpR op_gt (pv 3) pe_int (nomark _))
        (pss_cons (ps_set (i := 4) sc_step_of.nd rfl (.inl rfl) (pe_op op_modN (pv 1) (pv 3)))
      (pss_cons (ps_set (i := 1) sc_step_of.nd rfl (.inl rfl) (pv 3))
      (pss_one (ps_set (i := 3) sc_step_of.nd rfl (.inl rfl) (pv 4)))))))))
      (pss_one (ps_ret (pv 1))))), ?_⟩
    refine q_asg ev_c fun H1 e1 => ?_
    refine q_forLn (a := a) (xs := xs.map V.int) (ev_var rfl) (hL.mono e1) (fun i σ' H' => ∃ x2 x3 x4, σ' = [some (.ref a), some (.int ((gcdL (xs.take i) : Nat) : Int)), x2, x3, x4] ∧ Ex H1 H')
      (fun H2 e2 => ⟨_, _, _, rfl, e2⟩) (fun i σ' H' _ hP => by obtain ⟨_, _, _, rfl, e⟩ := hP; exact hL.mono (e1.trans e)) (fun i x σ' H' hx hP => ?_) (fun σ' H' hP => ?_)
    · obtain ⟨x2, x3, x4, rfl, e⟩ := hP
      rw [List.getElem?_map] at hx
      cases hy : xs[i]? with
      | none => rw [hy] at hx; cases hx
      | some y =>
        rw [hy] at hx
        cases hx
        have hg : gcdL (xs.take (i + 1)) = Nat.gcd (gcdL (xs.take i)) y.natAbs := by
          unfold gcdL
          rw [List.take_add_one, hy, List.foldl_append]
          rfl
        refine q_asg (ev_abs (ev_var rfl)) fun H2 e2 => ?_
        rw [show (if y < 0 then -y else y) = ((y.natAbs : Nat) : Int) by split <;> omega]
        refine s_while (fun m σ2 H2 => ∃ g o x4, o = m ∧ σ2 = [some (.ref a), some (.int ((g : Nat) : Int)), some (.int y), some (.int ((o : Nat) : Int)), x4] ∧ Ex H1 H2 ∧ Nat.gcd g o = gcdL (xs.take (i + 1))) y.natAbs
          ⟨_, _, _, rfl, rfl, e.trans e2, hg.symm⟩ fun m σ2 H3 hW => ?_
        obtain ⟨g, o, x4, rfl, rfl, e3, hgo⟩ := hW
        refine ⟨_, et_test (ev_op (ev_var rfl) ev_c rv_I0), fun hb H4 e4 => ?_, fun hb H4 e4 => ?_⟩
        · rw [decide_eq_true_eq] at hb
          have ho : 0 < o := by omega
          refine ⟨fun σ2 H2 => ∃ g' o' x4, o' = g % o ∧ σ2 = [some (.ref a), some (.int ((g' : Nat) : Int)), some (.int y), some (.int ((o' : Nat) : Int)), x4] ∧ Ex H1 H2 ∧ Nat.gcd g' o' = gcdL (xs.take (i + 1)), fun σ2 H2 h => ⟨g % o, Nat.mod_lt _ ho, h⟩, ?_⟩
          refine q_asg (ev_mod (ev_var rfl) (ev_var rfl) (by omega)) fun H5 e5 => q_asg (ev_var rfl) fun H6 e6 => s_asg (ev_var rfl) fun H7 e7 => ?_
          refine ⟨o, g % o, _, rfl, by rw [Int.natCast_emod]; rfl, ((e3.trans e4).trans e5).trans (e6.trans e7), ?_⟩
          rw [← hgo, Nat.gcd_comm g o, Nat.gcd_rec o g, Nat.gcd_comm]
        · rw [decide_eq_false_iff_not] at hb
          have ho : o = 0 := by omega
          subst ho
          rw [Nat.gcd_zero_right] at hgo
          rw [← hgo]
          exact ⟨_, _, _, rfl, e3.trans e4⟩
    · obtain ⟨x2, x3, x4, rfl, e⟩ := hP
      refine s_ret (ev_var rfl) fun H2 e2 => ?_
      rw [List.length_map, List.take_length]
      exact q H2 ((e1.trans e).trans e2)
theorem ok_kept (T : Txt K mg) (G_must_form : FnOk P w K mg base (L2.CX P w) k T.f_must_form T.d_must_form ["form"] (sp_must_form K T.c_NoForm)) (G_determinant : FnOk P w K mg base CX0 k T.f_determinant T.d_determinant ["form"] (sp_determinant K))
    (G_step_of : FnOk P w K mg base CX0 k T.f_step_of T.d_step_of ["row"] (sp_step_of K)) : FnOk P w K mg base (L2.CX P w) (k + 1) T.f_kept T.d_kept ["form"] (sp_kept K T.c_NoForm) := by
  refine T.F_kept.okX sc_kept (fun vs H Q E h => ?_) (fun cdv A outer s H vs Q E hr h => ?_)
  · obtain ⟨a, M, rfl, _⟩ := h
    rfl
  · obtain ⟨a, M, rfl, hM, hs, q1, q2⟩ := h
    refine ⟨_, (pss_cons (ps_expr (pe_call G_must_form hr rfl T.m_must_form T.F_must_form.kp T.b_must_form .nil (passes_call (takes_of rfl rfl rfl rfl) (fun _ _ _ _ h => h)) (pa_cons (pv 0) pa_nil)))
      (pss_one (ps_ret (pe_tup (pa_cons (pe_call G_determinant hr rfl T.m_determinant T.F_determinant.kp T.b_determinant .nil pass0 (pa_cons (pv 0) pa_nil)) (pa_cons (pe_lc (own := [("row", 1)]) rfl sc_kept.nd (pi_listK K (pv 0)) (blkOk_by (own := [("row", 1)]) (N := N_kept) (sc := defScope s_kept) (by decide +kernel)) (fun _ _ _ _ _ => (pg_name (i := 1) sc_kept.nd rfl (.inl rfl))) (fun _ _ _ _ _ => pts_nil) (fun _ _ _ _ _ => (pe_call G_step_of hr rfl T.m_step_of T.F_step_of.kp T.b_step_of .nil pass0 (pa_cons (pv 1) pa_nil)))) pa_nil)))))), ?_⟩
    refine ⟨.ref a, rfl, a, M, rfl, hM, hs, fun H1 e1 => ⟨fun hF => ?_, fun hF => q1 hF H1 e1⟩⟩
    obtain ⟨n, f, rfl, hf⟩ := hF
    have hn1 := hf.1
    have hn6 := hf.2.1
    have hM1 := hM.mono e1
    have hd : Ev (tCall (sp_determinant K) [] E0 (tCons (tVar 0) tNil)) [some (V.ref a), none] H1 (.int (detL n f)) := ev_call (ea_cons (ev_var rfl) ea_nil) fun G1 g1 Q' q' E' => ⟨a, n, f, rfl, hM1.mono g1, hn1, hn6, fun i j hi hj => (hf.bits).2.2 i j hi hj, q'⟩
    have hc : EvL (tLc (iList K (tVar 0)) (gName 1) tYes (tCall (sp_step_of K) [] E0 (tCons (tVar 1) tNil)) [1]) [some (V.ref a), none] H1 ((stepsOf n f).map V.int) :=
      el_lcRows (fun r => ((gcdL r : Nat) : Int)) (ev_var rfl) hM1 (by rw [fm_len]; omega) (fun _ => rfl) fun x r G1 g1 hr hx => ev_call (ea_cons (ev_var (v := .ref x) rfl) ea_nil) fun G2 g2 Q' q' E' => ⟨x, r, rfl, hx.mono g2, (small_fm (n := n) (f := f) (by omega)).2 r hr, q'⟩
    refine hd H1 (Ex.refl _) _ fun H2 e2 => hc H2 e2 _ fun p H3 hp e3 hp3 => ⟨by show 2 ≤ sizeLine; decide, fun t ht => ?_⟩
    refine q2 n f rfl hf _ _ (((e1.trans e2).trans e3).trans (Ex.new ht)) ⟨t, p, rfl, fresh_back ((e1.trans e2).trans e3) ht, upd_same, fresh_back (e1.trans e2) hp, (Ex.new ht) _ _ hp3⟩
end
end AT

/-! ## the law's own sum and steps -/
namespace AT
open PySem PySem.Spec PyProof.Rows L2 Evl
def sp__law_sum (K : Frag) : Sp := fun vs H Q _ => ∃ a n f, vs = [.ref a] ∧ LLI K H a (Fm n f) ∧ n ≤ 6 ∧ (∀ i j, i < n → j < n → (f i j).natAbs < 2 ^ 7) ∧ ∀ H', Ex H H' → Q (.int (detL n f)) H'
def sp__law_step (K : Frag) : Sp := fun vs H Q _ => ∃ (a : Addr) (xs : List Int), vs = [.ref a] ∧ LI K H a xs ∧ xs ≠ [] ∧ xs.length ≤ 1000 ∧ (∀ x, x ∈ xs → x.natAbs ≤ 1000) ∧ ∀ H', Ex H H' → Q (.int ((gcdL xs : Nat) : Int)) H'
def sp__law_whole : Sp := fun vs H Q _ => ∃ i, vs = [.int i] ∧ ∀ H', Ex H H' → Q (.bl true) H'
theorem sumL_snoc (l : List Int) (x : Int) : sumL (l ++ [x]) = sumL l + x := by
  induction l with
  | nil => simp [sumL]
  | cons y l ih =>
    show y + sumL (l ++ [x]) = y + sumL l + x
    rw [ih]; omega
theorem prodL_snoc (l : List Int) (x : Int) : prodL (l ++ [x]) = prodL l * x := by
  induction l with
  | nil => simp [prodL]
  | cons y l ih =>
    show y * prodL (l ++ [x]) = y * prodL l * x
    rw [ih, Int.mul_assoc]
theorem prN_back (n : Nat) (h : Nat → Int) : prN (n + 1) h = prN n h * h n := by
  unfold prN
  rw [List.range_succ, List.map_append]
  exact prodL_snoc _ _
theorem foldl_gcd_dvd : ∀ (xs : List Int) (g : Nat), xs.foldl (fun g x => Nat.gcd g x.natAbs) g ∣ g ∧ ∀ x ∈ xs, xs.foldl (fun g x => Nat.gcd g x.natAbs) g ∣ x.natAbs
  | [], g => ⟨Nat.dvd_refl _, fun x h => by cases h⟩
  | y :: xs, g => by
    obtain ⟨h1, h2⟩ := foldl_gcd_dvd xs (Nat.gcd g y.natAbs)
    refine ⟨Nat.dvd_trans h1 (Nat.gcd_dvd_left _ _), fun x hx => ?_⟩
    rcases List.mem_cons.mp hx with rfl | hx
    · exact Nat.dvd_trans h1 (Nat.gcd_dvd_right _ _)
    · exact h2 x hx
theorem dvd_foldl_gcd {d : Nat} : ∀ (xs : List Int) (g : Nat), d ∣ g → (∀ x ∈ xs, d ∣ x.natAbs) → d ∣ xs.foldl (fun g x => Nat.gcd g x.natAbs) g
  | [], g, h, _ => h
  | y :: xs, g, h, h2 => dvd_foldl_gcd xs _ (Nat.dvd_gcd h (h2 y List.mem_cons_self)) fun x hx => h2 x (List.mem_cons_of_mem _ hx)
theorem gcdL_dvd {xs : List Int} {x : Int} (h : x ∈ xs) : gcdL xs ∣ x.natAbs := (foldl_gcd_dvd xs 0).2 x h
theorem dvd_gcdL {xs : List Int} {d : Nat} (h : ∀ x ∈ xs, d ∣ x.natAbs) : d ∣ gcdL xs := dvd_foldl_gcd xs 0 (Nat.dvd_zero d) h
section
variable {P : Program} {w : World} {K : Frag} {mg : Str → Option Value} {base : Heap} {k : Nat}
theorem q_forN {σ : St} {H : Hp} {D : Ends} {n : Nat} {tn : TE} {g : TG} {tu tz : TS} (hn : Ev tn σ H (.int (n : Int))) (h6 : n ≤ 6)
    (kk : ∀ H1, Ex H H1 → ∃ Pv : Nat → St → Hp → Prop, (∀ H2, Ex H1 H2 → Pv 0 σ H2) ∧ (∀ i σ' H', Pv i σ' H' → Ex H1 H') ∧
      (∀ i c ps σ' H', (allAt n n)[i]? = some ps → Names n ps → (∀ H2, Ex H' H2 → LI K H2 c (nI ps)) → Pv i σ' H' → g (.ref c) σ' H' fun σ2 H2 => tu { D with nx := Pv (i + 1), ct := Pv (i + 1), bk := tz D } σ2 H2) ∧
      (∀ σ' H', Pv (allAt n n).length σ' H' → tz D σ' H')) :
    tSeq (tFor (iList K (tCall sp__law_all_names [] E0 (tCons tn tNil))) g tu) tz D σ H := by
  refine sp_names_er hn h6 H (Ex.refl _) _ fun v H1 e1 ⟨p, hv, hp, as, hA, hAP⟩ => ?_
  subst hv
  obtain ⟨Pv, h0, hx, hs, hd⟩ := kk H1 e1
  have hal : as.length = (allAt n n).length := by rw [hAP.length, List.length_map]
  refine ⟨p, rfl, ⟨_, sq_of hA⟩, for_list (xs := as.map V.ref) Pv (h0 H1 (Ex.refl _)) (fun i σ' H' _ hP => sq_of (hx i σ' H' hP _ _ hA)) (fun i x σ' H' hxi hP => ?_) (fun σ' H' hP => hd σ' H' (by rw [List.length_map, hal] at hP; exact hP))⟩
  rw [List.getElem?_map] at hxi
  cases hax : as[i]? with
  | none => rw [hax] at hxi; cases hxi
  | some c =>
    rw [hax] at hxi
    cases hxi
    obtain ⟨r, hr1, hr2⟩ := paired_getL hAP hax
    rw [List.getElem?_map] at hr1
    cases hps : (allAt n n)[i]? with
    | none => rw [hps] at hr1; cases hr1
    | some ps =>
      rw [hps] at hr1
      cases hr1
      exact hs i c ps σ' H' hps (names_allAt (List.mem_of_getElem? hps)) (fun H2 e2 => sq_of ((hx i σ' H' hP).trans e2 _ _ hr2)) hP
theorem prN_bd {n i : Nat} {f : Nat → Nat → Int} {ps : List Nat} (hb : ∀ i j, i < n → j < n → (f i j).natAbs < 2 ^ 7) (h : Names n ps) (hi : i ≤ n) : (prN i fun k => f k (ps.getD k 0)).natAbs < 2 ^ (7 * i + 1) := by
  induction i with
  | zero =>
    show (1 : Int).natAbs < 2 ^ 1
    decide
  | succ i ih =>
    rw [prN_back, Int.natAbs_mul]
    have h1 := nat_mul_lt (ih (by omega)) (hb i (ps.getD i 0) (by omega) (names_getD h (by omega)).1)
    rw [show 7 * (i + 1) + 1 = 7 * i + 1 + 7 by omega]
    exact h1
theorem s_forDown {σ : St} {H : Hp} {D : Ends} {ta : TA} {j : Nat} {tu : TS} {top : Nat} (h : EvA ta σ H [.int (top : Int), .int 0, .int (-1)]) (ht : top ≤ 100000) (Pv : Nat → St → Hp → Prop) (h0 : ∀ H1, Ex H H1 → Pv 0 σ H1)
    (hs : ∀ (i : Nat) σ' H', i < top → Pv i σ' H' → tu { D with nx := Pv (i + 1), ct := Pv (i + 1), bk := D.nx } (σ'.set j (some (.int ((top - i : Nat) : Int)))) H') (hd : ∀ σ' H', Pv top σ' H' → D.nx σ' H') : tFor (iRng3 ta) (gName j) tu D σ H :=
  h H (Ex.refl H) _ fun H1 e => ⟨(top : Int), 0, -1, top, rfl, by have := RgC.neg (i := (top : Int)) (j := 0) (by omega) (by omega) (by omega) (by omega); simpa using this,
    for_it (walk_rangeC (lo := (top : Int)) (c := -1) (n := top)) Pv (h0 H1 e) (fun _ _ _ _ _ => trivial) (fun i x σ' H' H'' hi p hy => by
      obtain ⟨rfl, rfl⟩ := hy
      have e0 : (top : Int) + (i : Int) * -1 = ((top - i : Nat) : Int) := by omega
      show tu _ (σ'.set j (some (.int ((top : Int) + (i : Nat) * -1)))) _
      rw [e0]
      exact hs i σ' _ hi p) hd⟩
theorem q_forDown {σ : St} {H : Hp} {D : Ends} {ta : TA} {j : Nat} {tu tz : TS} {top : Nat} (h : EvA ta σ H [.int (top : Int), .int 0, .int (-1)]) (ht : top ≤ 100000) (Pv : Nat → St → Hp → Prop) (h0 : ∀ H1, Ex H H1 → Pv 0 σ H1)
    (hs : ∀ (i : Nat) σ' H', i < top → Pv i σ' H' → tu { D with nx := Pv (i + 1), ct := Pv (i + 1), bk := tz D } (σ'.set j (some (.int ((top - i : Nat) : Int)))) H') (hd : ∀ σ' H', Pv top σ' H' → tz D σ' H') : tSeq (tFor (iRng3 ta) (gName j) tu) tz D σ H :=
  s_forDown (D := { D with nx := tz D }) h ht Pv h0 hs hd
end
end AT

/-! ## kept: its promise at a form -/
namespace AT
open PySem PySem.Spec PyProof.Rows L2 Evl
section
variable {K : Frag} {H : Hp} {σ : St} {C a : Addr} {n : Nat} {f : Nat → Nat → Int} {t1 : TE} {E : XK}
theorem stepsOf_congr {n : Nat} {f g : Nat → Nat → Int} (h : Fm n f = Fm n g) : stepsOf n f = stepsOf n g := by
  unfold stepsOf
  rw [h]
theorem stepsOf_len : (stepsOf n f).length = n := by
  unfold stepsOf
  rw [List.length_map, fm_len]
theorem spr_kept (hf : FormOf n f) (hM : LLI K H a (Fm n f)) : SpR (sp_kept K C) [.ref a] H (RKept n f) := fun H1 e1 Q q E =>
  ⟨a, _, rfl, hM.mono e1, small_fm (by have := hf.2.1; omega), fun z => absurd (fmI hf) z, fun n' f' e hf' H2 v e2 hv => by
    obtain ⟨rfl, ee⟩ := fm_inj e
    refine q v H2 e2 ?_
    unfold RKept at hv ⊢
    rw [detL_fm e, stepsOf_congr e]
    exact hv⟩
theorem er_keptR (hf : FormOf n f) (h1 : Er t1 σ H (RM (Fm n f))) : Er (tCall (sp_kept K C) [] E (tCons t1 tNil)) σ H (RKept n f) :=
  er_callR1 mon_RKept h1 ea_nil fun v1 G1 G2 G3 g1 g2 g3 ⟨c, hc, hOc⟩ => by
    subst hc
    exact spr_kept hf (hOc.lli.mono g3)
theorem ev_isTup {vs : List V} {p : Addr} {ta : TE} (ha : Ev ta σ H (.ref p)) (h : H p = some (.tup vs)) : Ev (tCB (rIsi K) (tCons ta (tCons (tC (.ty "tuple")) tNil))) σ H (.bl true) := ev_isi (u := .none) (w := .none) (n := "tuple") ha (fun H1 e => .base (.tup (e _ _ h))) (kit_ty (by decide +kernel))
theorem ev_lenT {vs : List V} {p : Addr} {ta : TE} (ha : Ev ta σ H (.ref p)) (h : H p = some (.tup vs)) : Ev (tCB (rLenS K) (tCons ta tNil)) σ H (.int (vs.length : Int)) := fun H1 e Q q =>
  ha H1 e _ fun H2 e2 => ⟨p, vs, rfl, .inr (st_of ((e.trans e2) _ _ h)), q H2 e2⟩
theorem ev_ixT {vs : List V} {p : Addr} {ta tb : TE} {i : Nat} {v : V} (ha : Ev ta σ H (.ref p)) (hb : Ev tb σ H (.int (i : Int))) (h : H p = some (.tup vs)) (hv : vs[i]? = some v) : Ev (tOp (rIxT K) ta tb) σ H v := ev_op ha hb (rv_ixT (st_of h) (atI_n hv))
end
end AT

/-! ## what no turn changes -/
namespace AT
open PySem
def invOk (n : Nat) : Bool := (allAt n n).all fun ps => invF (invN n ps) % 2 == invF ps % 2
theorem invOk6 : (invOk 0 && invOk 1 && invOk 2 && invOk 3 && invOk 4 && invOk 5 && invOk 6) = true := by decide +kernel
theorem sgn_inv {n : Nat} {ps : List Nat} (h6 : n ≤ 6) (h : Names n ps) : sgn (invN n ps) = sgn ps := by
  have h0 := invOk6
  simp only [Bool.and_eq_true] at h0
  have hn : invOk n = true := by
    rcases (show n = 0 ∨ n = 1 ∨ n = 2 ∨ n = 3 ∨ n = 4 ∨ n = 5 ∨ n = 6 by omega) with rfl | rfl | rfl | rfl | rfl | rfl | rfl
    · exact h0.1.1.1.1.1.1
    · exact h0.1.1.1.1.1.2
    · exact h0.1.1.1.1.2
    · exact h0.1.1.1.2
    · exact h0.1.1.2
    · exact h0.1.2
    · exact h0.2
  have := List.all_eq_true.mp hn ps (mem_allAt_iff.mpr h)
  unfold sgn
  rw [invs_eq, invs_eq, beq_iff_eq.mp this]
theorem names_ext {n : Nat} {ps qs : List Nat} (h : Names n ps) (h2 : Names n qs) (e : ∀ t, t < n → ps.getD t 0 = qs.getD t 0) : ps = qs := by
  rw [list_eq_range 0 ps, list_eq_range 0 qs, h.len, h2.len]
  exact List.map_congr_left fun t ht => e t (List.mem_range.mp ht)
theorem inv_inj {n : Nat} {ps qs : List Nat} (h : Names n ps) (h2 : Names n qs) (e : invN n ps = invN n qs) : ps = qs := names_ext h h2 fun t ht => by
  have hp := names_getD h ht
  have e1 : ps.idxOf (ps.getD t 0) = qs.idxOf (ps.getD t 0) := by rw [← invN_getD (ps := ps) hp.1, e, invN_getD hp.1]
  rw [hp.2] at e1
  have := names_at_ix h2 hp.1
  rw [← e1] at this
  exact this.symm
theorem detL_tr {n : Nat} {A : Nat → Nat → Int} (h6 : n ≤ 6) : detL n (fun i j => A j i) = detL n A := by
  have e : detL n (fun i j => A j i) = sumL ((allAt n n).map fun ps => term n A (invN n ps)) := by
    refine sumL_congr fun ps hps => ?_
    have hps := names_allAt hps
    unfold term
    rw [sgn_inv h6 hps]
    refine congrArg _ ?_
    have e1 : prN n (fun k => A k ((invN n ps).getD k 0)) = prodL (ps.map fun k => A k ((invN n ps).getD k 0)) := (prN_perm hps).symm
    have e2 : ∀ g : Nat → Int, ps.map g = (List.range n).map fun i => g (ps.getD i 0) := fun g => by
      conv => lhs; rw [list_eq_range 0 ps, hps.len]
      rw [List.map_map]
      rfl
    rw [e1, e2]
    refine congrArg prodL (List.map_congr_left fun i hi => ?_)
    have hi := List.mem_range.mp hi
    have hp := names_getD hps hi
    show A (ps.getD i 0) i = A (ps.getD i 0) ((invN n ps).getD (ps.getD i 0) 0)
    rw [invN_getD hp.1, hp.2]
  rw [e]
  exact sum_bij (term n A) (fun ps h => invN_names h) fun ps qs h h2 => inv_inj h h2
/-- a multiple of row k to each other one, row k the other way -/
theorem detL_rows {n k : Nat} {A : Nat → Nat → Int} (c : Nat → Int) (hk : k < n) : detL n (fun i j => if i = k then 0 - A k j else A i j + c i * A k j) = 0 - detL n A := by
  have h1 : ∀ t, t ≤ n → detL n (fun i j => if i < t ∧ i ≠ k then A i j + c i * A k j else A i j) = detL n A := fun t => by
    induction t with
    | zero => exact fun _ => detL_congr fun i j _ _ => by rw [if_neg (by omega)]
    | succ t ih =>
      intro ht
      rw [← ih (by omega)]
      by_cases e : t = k
      · exact detL_congr fun i j _ _ => by
          by_cases h : i < t ∧ i ≠ k
          · rw [if_pos h, if_pos (by omega)]
          · rw [if_neg h, if_neg (by omega)]
      · have h2 := detL_op (n := n) (p := t) (q := k) (A := fun i j => if i < t ∧ i ≠ k then A i j + c i * A k j else A i j) (a := 1) (b := c t) (by omega) hk e
        rw [Int.one_mul] at h2
        rw [← h2]
        refine detL_congr fun i j _ _ => ?_
        unfold setR
        by_cases e1 : i = t
        · subst e1
          rw [if_pos (by omega), if_pos rfl]
          dsimp only
          rw [if_neg (by omega), if_neg (by omega)]
          omega
        · rw [if_neg e1]
          dsimp only
          by_cases h : i < t ∧ i ≠ k
          · rw [if_pos h, if_pos (by omega)]
          · rw [if_neg h, if_neg (by omega)]
  have h3 := h1 n (Nat.le_refl n)
  generalize hB : (fun i j => if i < n ∧ i ≠ k then A i j + c i * A k j else A i j) = B at h3
  have hBk : ∀ j, B k j = A k j := fun j => by rw [← hB]; dsimp only; rw [if_neg (by omega)]
  have h4 := detL_lin (n := n) (i := k) (A := B) (r := B k) (s := B k) (a := -1) (b := 0) hk
  rw [setR_self] at h4
  have e : detL n (fun i j => if i = k then 0 - A k j else A i j + c i * A k j) = detL n (setR B k fun j => -1 * B k j + 0 * B k j) := detL_congr fun i j hi _ => by
    unfold setR
    by_cases e1 : i = k
    · rw [if_pos e1, if_pos e1]
      dsimp only
      rw [hBk]
      omega
    · rw [if_neg e1, if_neg e1, ← hB]
      dsimp only
      rw [if_pos ⟨hi, e1⟩]
  rw [e, h4]
  omega
def pos (a : Int) : Int := if 0 < a then a else 0
theorem thr_pos (a b : Int) : thr a b = a * pos b + pos (0 - a) * b := by
  unfold thr pos
  by_cases h1 : 0 < a
  · by_cases h2 : 0 < b
    · rw [if_pos ⟨h1, h2⟩, if_pos h2, if_neg (by omega)]
      omega
    · rw [if_neg (by omega), if_neg (by omega), if_neg h2, if_neg (by omega)]
      omega
  · by_cases h2 : a < 0
    · by_cases h3 : 0 < b
      · rw [if_neg (by omega), if_neg (by omega), if_pos h3, if_pos (by omega)]
        grind
      · by_cases h4 : b < 0
        · rw [if_neg (by omega), if_pos ⟨h2, h4⟩, if_neg h3, if_pos (by omega)]
          grind
        · have : b = 0 := by omega
          subst this
          rw [if_neg (by omega), if_neg (by omega), if_neg (by omega), if_pos (by omega)]
          omega
    · have : a = 0 := by omega
      subst this
      rw [if_neg (by omega), if_neg (by omega), if_neg (show ¬ (0 : Int) < 0 - 0 by omega)]
      omega
theorem skew_zero {n k : Nat} {f : Nat → Nat → Int} (hs : Skew n f) (hk : k < n) : f k k = 0 := by
  have := hs k k hk hk
  omega
theorem detL_turn {n k : Nat} {f : Nat → Nat → Int} (h6 : n ≤ 6) (hs : Skew n f) (hk : k < n) : detL n (turnF f k) = detL n f := by
  have h0 := skew_zero hs hk
  have h1 := detL_rows (A := f) (fun i => pos (0 - f i k)) hk
  generalize hB : (fun i j => if i = k then 0 - f k j else f i j + pos (0 - f i k) * f k j) = B at h1
  have h2 := detL_rows (A := fun i j => B j i) (fun j => pos (f k j)) hk
  have hBt := detL_tr h6 (A := B)
  rw [hBt] at h2
  have e : detL n (turnF f k) = detL n fun i j => (fun i j => if i = k then 0 - (fun i j => B j i) k j else (fun i j => B j i) i j + pos (f k i) * (fun i j => B j i) k j) j i := detL_congr fun i j _ _ => by
    unfold turnF
    rw [← hB]
    dsimp only
    by_cases e1 : i = k
    · subst e1
      by_cases e2 : j = i
      · subst e2
        rw [if_pos (.inl rfl), if_pos rfl, if_pos rfl, h0]
        rfl
      · rw [if_pos (.inl rfl), if_neg e2, if_pos rfl, if_pos rfl, h0]
        omega
    · by_cases e2 : j = k
      · subst e2
        rw [if_pos (.inr rfl), if_pos rfl, if_neg e1, h0]
        omega
      · rw [if_neg (by omega), if_neg e2, if_neg e1, if_neg e1, thr_pos, h0]
        grind
  rw [e, detL_tr h6 (A := fun i j => if i = k then 0 - (fun i j => B j i) k j else (fun i j => B j i) i j + pos (f k i) * (fun i j => B j i) k j), h2, h1]
  omega
theorem detL_odd {n : Nat} {f : Nat → Nat → Int} (h6 : n ≤ 6) (hs : Skew n f) (ho : n % 2 = 1) : detL n f = 0 := by
  have h1 : detL n (fun i j => f j i) = detL n fun i j => (-1) * f i j := detL_congr fun i j hi hj => by have := hs i j hi hj; omega
  rw [detL_tr h6, detL_scale] at h1
  have : ((-1 : Int)) ^ n = -1 := by
    rcases (show n = 1 ∨ n = 3 ∨ n = 5 by omega) with rfl | rfl | rfl <;> decide
  rw [this] at h1
  omega
/-! ### renamed -/
theorem asc_or : ∀ l : List Nat, (∃ t, t + 1 < l.length ∧ l.getD (t + 1) 0 < l.getD t 0) ∨ l.Pairwise (· ≤ ·)
  | [] => .inr .nil
  | [x] => .inr (List.pairwise_singleton _ _)
  | x :: y :: r => by
    by_cases h : y < x
    · exact .inl ⟨0, by simp, h⟩
    · rcases asc_or (y :: r) with ⟨t, h1, h2⟩ | h1
      · exact .inl ⟨t + 1, by simpa using h1, h2⟩
      · refine .inr (List.pairwise_cons.mpr ⟨fun z hz => ?_, h1⟩)
        rcases List.mem_cons.mp hz with rfl | hz
        · omega
        · have := (List.pairwise_cons.mp h1).1 z hz
          omega
theorem invF_desc : ∀ (i : Nat) (l : List Nat), i + 1 < l.length → l.getD (i + 1) 0 < l.getD i 0 → invF l = invF (adj i l) + 1
  | 0, [], h, _ => by simp at h
  | 0, [_], h, _ => by simp at h
  | 0, a :: b :: r, _, h => by
    have h2 : b < a := h
    have h3 : ¬ a < b := by omega
    simp only [adj, invF, List.filter_cons]
    simp only [h2, h3, decide_true, decide_false, if_true, List.length_cons]
    simp
    omega
  | i + 1, [], h, _ => by simp at h
  | i + 1, x :: l, h, hd => by
    have ih := invF_desc i l (by simpa using h) (by simpa using hd)
    have hc := ((adj_perm i l).filter fun y => decide (y < x)).length_eq
    simp only [adj, invF, hc]
    omega
theorem swp_swp (i k : Nat) : swp i (swp i k) = k := by
  unfold swp
  by_cases h1 : k = i
  · rw [if_pos h1, if_neg (by omega), if_pos rfl, h1]
  · by_cases h2 : k = i + 1
    · rw [if_neg h1, if_pos h2, if_pos rfl, h2]
    · rw [if_neg h1, if_neg h2, if_neg h1, if_neg h2]
theorem swp_lt {n i k : Nat} (h : i + 1 < n) (hk : k < n) : swp i k < n := by
  unfold swp
  split
  · omega
  · split <;> omega
theorem adj_ix {n t i : Nat} {ps : List Nat} (h : Names n ps) (ht : t + 1 < n) (hi : i < n) : (adj t ps).idxOf i = swp t (ps.idxOf i) := by
  have hn : Names n (adj t ps) := (adj_perm t ps).trans h
  have hx := h.ix hi
  have e : (adj t ps).getD (swp t (ps.idxOf i)) 0 = i := by rw [adj_getD _ _ _ (by rw [h.len]; exact ht), swp_swp, names_at_ix h hi]
  have := (names_getD hn (swp_lt ht hx)).2
  rw [e] at this
  exact this
theorem detL_adj2 {n t : Nat} {A : Nat → Nat → Int} (h6 : n ≤ 6) (h : t + 1 < n) : detL n (fun i j => A (swp t i) (swp t j)) = detL n A := by
  have h1 := detL_adj (n := n) (i := t) (A := fun i j => A i (swp t j)) h
  have h2 := detL_adj (n := n) (i := t) (A := fun i j => A j i) h
  have hAt := detL_tr h6 (A := A)
  rw [hAt] at h2
  have h3 : detL n (fun i j => A i (swp t j)) = detL n (fun k j => (fun i j => A j i) (swp t k) j) := (detL_tr h6 (A := fun i j => A i (swp t j))).symm
  rw [h3, h2] at h1
  have h4 : detL n (fun i j => A (swp t i) (swp t j)) = detL n (fun k j => (fun i j => A i (swp t j)) (swp t k) j) := rfl
  rw [h4, h1]
  omega
theorem detL_ren : ∀ (m : Nat) {n : Nat} {f : Nat → Nat → Int} {ps : List Nat}, n ≤ 6 → Names n ps → invF ps = m → detL n (renF f ps) = detL n f
  | m, n, f, ps, h6, h, hm => by
    rcases asc_or ps with ⟨t, h1, h2⟩ | hs
    · have hd := invF_desc t ps h1 h2
      rw [h.len] at h1
      have hq : Names n (adj t ps) := (adj_perm t ps).trans h
      cases m with
      | zero => omega
      | succ m =>
        have ih := detL_ren m (n := n) (f := fun i j => f (swp t i) (swp t j)) (ps := adj t ps) h6 hq (by omega)
        rw [detL_adj2 h6 h1] at ih
        rw [← ih]
        refine detL_congr fun i j hi hj => ?_
        show f (ps.idxOf i) (ps.idxOf j) = f (swp t ((adj t ps).idxOf i)) (swp t ((adj t ps).idxOf j))
        rw [adj_ix h h1 hi, adj_ix h h1 hj, swp_swp, swp_swp]
    · have e : decide (nI ps = nI (List.range n)) = dec (IsNames n (nI ps)) := sorted_range (List.Perm.refl _) (by
        unfold nI
        rw [List.pairwise_map]
        exact hs.imp fun h => by omega)
      rw [dec_true (isNames_iff.mpr ⟨ps, h, rfl⟩), decide_eq_true_eq] at e
      have e2 : ps = List.range n := (List.map_inj_right (f := fun x : Nat => (x : Int)) fun a b h => by omega).mp e
      refine detL_congr fun i j hi hj => ?_
      have hx : ∀ i, i < n → ps.idxOf i = i := fun i hi => by
        have := (names_getD h hi).2
        have e3 : ps.getD i 0 = i := by rw [e2, List.getD_eq_getElem?_getD, List.getElem?_range hi]; rfl
        rw [e3] at this
        exact this
      show f (ps.idxOf i) (ps.idxOf j) = f i j
      rw [hx i hi, hx j hj]
/-! ### the steps -/
theorem thr_dvd {g : Nat} {a : Int} (b : Int) (h : g ∣ a.natAbs) : (g : Int) ∣ thr a b := by
  have h1 : (g : Int) ∣ a := Int.natAbs_dvd_natAbs.mp (show (g : Int).natAbs ∣ a.natAbs from h)
  unfold thr
  split
  · exact Int.dvd_trans h1 (Int.dvd_mul_right a b)
  · split
    · rw [Int.zero_sub]
      exact Int.dvd_neg.mpr (Int.dvd_trans h1 (Int.dvd_mul_right a b))
    · exact Int.dvd_zero _
theorem natAbs_of {g : Nat} {a : Int} (h : (g : Int) ∣ a) : g ∣ a.natAbs := Int.natAbs_dvd_natAbs.mpr h
theorem of_natAbs {g : Nat} {a : Int} (h : g ∣ a.natAbs) : (g : Int) ∣ a := Int.natAbs_dvd_natAbs.mp (show (g : Int).natAbs ∣ a.natAbs from h)
theorem gcd_turn {n k i : Nat} {f : Nat → Nat → Int} (hk : k < n) (hi : i < n) : gcdL ((List.range n).map (turnF f k i)) = gcdL ((List.range n).map (f i)) := by
  have key : ∀ (f : Nat → Nat → Int) (g : Nat), (∀ j, j < n → g ∣ (f i j).natAbs) → ∀ j, j < n → g ∣ (turnF f k i j).natAbs := fun f g hg j hj => by
    unfold turnF
    split
    · have := hg j hj
      rw [Int.zero_sub, Int.natAbs_neg]
      exact this
    · refine natAbs_of (Int.dvd_add (of_natAbs (hg j hj)) (thr_dvd _ (hg k hk)))
  have mem : ∀ (f : Nat → Nat → Int) j, j < n → gcdL ((List.range n).map (f i)) ∣ (f i j).natAbs := fun f j hj => gcdL_dvd (List.mem_map.mpr ⟨j, List.mem_range.mpr hj, rfl⟩)
  refine Nat.dvd_antisymm (dvd_gcdL fun x hx => ?_) (dvd_gcdL fun x hx => ?_)
  · obtain ⟨j, hj, rfl⟩ := List.mem_map.mp hx
    have hj := List.mem_range.mp hj
    have h1 := key (turnF f k) _ (fun j hj => mem (turnF f k) j hj) j hj
    have h2 : turnF (turnF f k) k i j = f i j := (fm_inj (turnF_twice (f := f) hk)).2 i j hi hj
    rw [h2] at h1
    exact h1
  · obtain ⟨j, hj, rfl⟩ := List.mem_map.mp hx
    exact key f _ (fun j hj => mem f j hj) j (List.mem_range.mp hj)
theorem steps_turn {n k : Nat} {f : Nat → Nat → Int} (hk : k < n) : stepsOf n (turnF f k) = stepsOf n f := by
  unfold stepsOf Fm
  rw [List.map_map, List.map_map]
  refine List.map_congr_left fun i hi => ?_
  show ((gcdL ((List.range n).map (turnF f k i)) : Nat) : Int) = ((gcdL ((List.range n).map (f i)) : Nat) : Int)
  rw [gcd_turn hk (List.mem_range.mp hi)]
theorem gcd_ren {n i : Nat} {f : Nat → Nat → Int} {ps : List Nat} (h : Names n ps) (hi : i < n) : gcdL ((List.range n).map (renF f ps (ps.getD i 0))) = gcdL ((List.range n).map (f i)) := by
  have hp := names_getD h hi
  have e : ∀ j, renF f ps (ps.getD i 0) j = f i (ps.idxOf j) := fun j => by unfold renF; rw [hp.2]
  refine Nat.dvd_antisymm (dvd_gcdL fun x hx => ?_) (dvd_gcdL fun x hx => ?_)
  · obtain ⟨j, hj, rfl⟩ := List.mem_map.mp hx
    have hj := List.mem_range.mp hj
    have hq := names_getD h hj
    have := gcdL_dvd (xs := (List.range n).map (renF f ps (ps.getD i 0))) (List.mem_map.mpr ⟨ps.getD j 0, List.mem_range.mpr hq.1, rfl⟩)
    rw [e, hq.2] at this
    exact this
  · obtain ⟨j, hj, rfl⟩ := List.mem_map.mp hx
    rw [e]
    exact gcdL_dvd (List.mem_map.mpr ⟨ps.idxOf j, List.mem_range.mpr (h.ix (List.mem_range.mp hj)), rfl⟩)
end AT

/-! ## is_cut and the law's own -/
namespace AT
open PySem PySem.Spec PyProof.Rows L2 Evl
def lineB (c : Int) (p : Ln) : Bool := decide (0 ≤ p.1) && (decide (p.2 < c) && (decide (p.1 + 1 < p.2) && decide (p.2 - p.1 < c - 1)))
def crossB (p q : Ln) : Bool := (decide (p.1 < q.1) && (decide (q.1 < p.2) && decide (p.2 < q.2))) || (decide (q.1 < p.1) && (decide (p.1 < q.2) && decide (q.2 < p.2)))
def lnD (ls : List Ln) (k : Nat) : Ln := ls.getD k (0, 0)
def CutAt (c : Int) (ls : List Ln) (k : Nat) : Prop := lineB c (lnD ls k) = true ∧ (0 < k → ltP (lnD ls (k - 1)) (lnD ls k) = true) ∧ ∀ j, j < k → crossB (lnD ls j) (lnD ls k) = false
def IsCut (c : Int) (ls : List Ln) : Prop := 4 ≤ c ∧ c ≤ 9 ∧ (ls.length : Int) = c - 3 ∧ ∀ k, k < ls.length → CutAt c ls k
def sp_line_right (K : Frag) : Sp := fun vs H Q _ => ∃ (c : Int) (x : Addr) (p : Ln), vs = [.int c, .ref x] ∧ PT K H x p ∧ ∀ H', Ex H H' → Q (.bl (lineB c p)) H'
def sp_crossing (K : Frag) : Sp := fun vs H Q _ => ∃ (x y : Addr) (p q : Ln), vs = [.ref x, .ref y] ∧ PT K H x p ∧ PT K H y q ∧ ∀ H', Ex H H' → Q (.bl (crossB p q)) H'
def sp_is_cut (K : Frag) : Sp := fun vs H Q _ => ∃ (c : Int) (a : Addr) (ls : List Ln), vs = [.int c, .ref a] ∧ LP K H a ls ∧ ls.length ≤ 100 ∧ ∀ b H', Ex H H' → (b = true ↔ IsCut c ls) → Q (.bl b) H'
section
variable {K : Frag} {σ : St} {H : Hp} {ta tb tc td : TE} {x y z u : V}
theorem ev_chain3 {r r' r'' : R2} {k1 k2 k3 : Bool} (ha : Ev ta σ H x) (hb : Ev tb σ H y) (hr : RV r x y H (.bl k1)) (hc : Ev tc σ H z) (hr' : RV r' y z H (.bl k2)) (hd : Ev td σ H u) (hr'' : RV r'' z u H (.bl k3)) : Ev (tChain3 r r' r'' ta tb tc td) σ H (.bl (k1 && (k2 && k3))) := fun H1 e Q q =>
  ha H1 e _ fun H2 e2 => hb H2 (e.trans e2) _ fun H3 e3 => hr H3 ((e.trans e2).trans e3) _ fun H4 e4 => ⟨k1, rfl, by
    have e14 := ((e.trans e2).trans e3).trans e4
    cases k1 with
    | false => exact q H4 ((e2.trans e3).trans e4)
    | true =>
      show tc σ H4 _
      refine hc H4 e14 _ fun H5 e5 => hr' H5 (e14.trans e5) _ fun H6 e6 => ⟨k2, rfl, ?_⟩
      cases k2 with
      | false => exact q H6 ((((e2.trans e3).trans e4).trans e5).trans e6)
      | true =>
        show td σ H6 _
        exact hd H6 ((e14.trans e5).trans e6) _ fun H7 e7 => hr'' H7 (((e14.trans e5).trans e6).trans e7) _ fun H8 e8 => q H8 ((((((e2.trans e3).trans e4).trans e5).trans e6).trans e7).trans e8)⟩
theorem LP.gets {a : Addr} {ls : List Ln} {i : Nat} (h : LP K H a ls) (hi : i < ls.length) : ∃ x, RV (rIxL K) (.ref a) (.int (i : Int)) H (.ref x) ∧ PT K H x (lnD ls i) := h.at (by
  unfold lnD
  rw [List.getD_eq_getElem?_getD, List.getElem?_eq_getElem hi]
  rfl)
end
section
variable {P : Program} {w : World} {K : Frag} {mg : Str → Option Value} {base : Heap} {k : Nat}
theorem ok_line_right (T : Txt K mg) : FnOk P w K mg base CX0 (k + 1) T.f_line_right T.d_line_right ["corners", "line"] (sp_line_right K) := by
  refine T.F_line_right.ok sc_line_right (fun vs H Q E h => ?_) (fun cdv A outer s H vs Q E hr h => ?_)
  · obtain ⟨c, x, p, rfl, _⟩ := h
    rfl
  · obtain ⟨c, x, p, rfl, hp, q⟩ := h
    refine ⟨_, (pss_cons (ps_asg (pv 1) (pg_tupK K (n := 2) rfl (pgs_cons (pg_name (i := 2) sc_line_right.nd rfl (.inl rfl)) (pgs_cons (pg_name (i := 3) sc_line_right.nd rfl (.inl rfl)) pgs_nil))))
      (pss_one (ps_ret (pe_and (pe_cmpR op_le pe_int (pv 2) (nomark _)) (pe_and (pe_cmpR op_lt (pv 3) (pv 0) (nomark _)) (pe_and (pe_cmpR op_lt (pe_op op_add (pv 2) pe_int) (pv 3) (nomark _)) (pe_one (pe_cmpR op_lt (pe_op op_sub (pv 3) (pv 2)) (pe_op op_sub (pv 0) pe_int) (nomark _))))))))), ?_⟩
    refine ⟨.ref x, rfl, x, [.int p.1, .int p.2], rfl, hp, rfl, .int p.1, [.int p.2], rfl, .int p.2, [], rfl, rfl, ?_⟩
    dsimp only
    exact s_ret (ev_andV (ev_op ev_c (ev_var rfl) rv_I0) fun _ => ev_andV (ev_op (ev_var rfl) (ev_var rfl) rv_I0) fun _ => ev_andV (ev_op (ev_op (ev_var rfl) ev_c rv_I0) (ev_var rfl) rv_I0) fun _ => ev_op (ev_op (ev_var rfl) (ev_var rfl) rv_I0) (ev_op (ev_var rfl) ev_c rv_I0) rv_I0) fun H1 e1 => q H1 e1
theorem ok_crossing (T : Txt K mg) : FnOk P w K mg base CX0 (k + 1) T.f_crossing T.d_crossing ["line", "other"] (sp_crossing K) := by
  refine T.F_crossing.ok sc_crossing (fun vs H Q E h => ?_) (fun cdv A outer s H vs Q E hr h => ?_)
  · obtain ⟨x, y, p, q, rfl, _⟩ := h
    rfl
  · obtain ⟨x, y, p, r, rfl, hp, hq, q⟩ := h
    refine ⟨_, (pss_one (ps_ret (pe_or (pe_chain3 op_lt op_lt op_lt (pe_ix (ixT K) (pv 0) pe_int (fun _ _ => rfl)) (pe_ix (ixT K) (pv 1) pe_int (fun _ _ => rfl)) (pe_ix (ixT K) (pv 0) pe_int (fun _ _ => rfl)) (pe_ix (ixT K) (pv 1) pe_int (fun _ _ => rfl))) (pe_one (pe_chain3 op_lt op_lt op_lt (pe_ix (ixT K) (pv 1) pe_int (fun _ _ => rfl)) (pe_ix (ixT K) (pv 0) pe_int (fun _ _ => rfl)) (pe_ix (ixT K) (pv 1) pe_int (fun _ _ => rfl)) (pe_ix (ixT K) (pv 0) pe_int (fun _ _ => rfl))))))), ?_⟩
    have l1 : ∀ H1, Ex H H1 → Ev (tOp (rIxT K) (tVar 0) (tC (.int 0))) [some (V.ref x), some (.ref y)] H1 (.int p.1) := fun H1 e => ev_p1 (ev_var rfl) ev_c (hp.mono e)
    have l2 : ∀ H1, Ex H H1 → Ev (tOp (rIxT K) (tVar 0) (tC (.int 1))) [some (V.ref x), some (.ref y)] H1 (.int p.2) := fun H1 e => ev_p2 (ev_var rfl) ev_c (hp.mono e)
    have o1 : ∀ H1, Ex H H1 → Ev (tOp (rIxT K) (tVar 1) (tC (.int 0))) [some (V.ref x), some (.ref y)] H1 (.int r.1) := fun H1 e => ev_p1 (ev_var rfl) ev_c (hq.mono e)
    have o2 : ∀ H1, Ex H H1 → Ev (tOp (rIxT K) (tVar 1) (tC (.int 1))) [some (V.ref x), some (.ref y)] H1 (.int r.2) := fun H1 e => ev_p2 (ev_var rfl) ev_c (hq.mono e)
    have e0 := Ex.refl H
    exact s_ret (ev_orV (ev_chain3 (l1 H e0) (o1 H e0) rv_I0 (l2 H e0) rv_I0 (o2 H e0) rv_I0) fun _ => ev_chain3 (o1 H e0) (l1 H e0) rv_I0 (o2 H e0) rv_I0 (l2 H e0) rv_I0) fun H1 e1 => q H1 e1
theorem isCut_not {c : Int} {ls : List Ln} {k : Nat} (hk : k < ls.length) (h : ¬ CutAt c ls k) : ¬ IsCut c ls := fun z => h (z.2.2.2 k hk)
theorem ok_is_cut (T : Txt K mg) (G_line_right : FnOk P w K mg base CX0 k T.f_line_right T.d_line_right ["corners", "line"] (sp_line_right K)) (G_crossing : FnOk P w K mg base CX0 k T.f_crossing T.d_crossing ["line", "other"] (sp_crossing K)) : FnOk P w K mg base CX0 (k + 1) T.f_is_cut T.d_is_cut ["corners", "lines"] (sp_is_cut K) := by
  refine T.F_is_cut.ok sc_is_cut (fun vs H Q E h => ?_) (fun cdv A outer s H vs Q E hr h => ?_)
  · obtain ⟨c, a, ls, rfl, _⟩ := h
    rfl
  · obtain ⟨c, a, ls, rfl, hL, hl, q⟩ := h
    refine ⟨_, (pss_cons (ps_if (PW.pt (pw_or (pt_cmpR op_lt (pv 0) pe_int (nomark _)) (pw_or (pt_cmpR op_gt (pv 0) (pe_glob (v := .int 9) rfl T.m_MOST_CORNERS ⟨_, rfl⟩) (nomark _)) (pw_or1 (pt_cmpR op_ne (pe_callB (lenK K) rfl T.b_len PySem.boot_len (pa_cons (pv 1) pa_nil)) (pe_op op_sub (pv 0) pe_int) (nomark _))))))
        (pss_one (ps_ret pe_bl))
        pss_nil)
      (pss_cons (ps_for PassesOwn.never rfl (pi_range1 rfl T.b_range (pa_cons (pe_callB (lenK K) rfl T.b_len PySem.boot_len (pa_cons (pv 1) pa_nil)) pa_nil)) (pg_name (i := 2) sc_is_cut.nd rfl (.inl rfl))
        (pss_cons (ps_if (PW.pt (pw_or (pt_not (pt_val (pe_call G_line_right hr rfl T.m_line_right T.F_line_right.kp T.b_line_right .nil pass0 (pa_cons (pv 0) (pa_cons (pe_ix (ixL K) (pv 1) (pv 2) (fun _ _ => rfl)) pa_nil))))) (pw_or1 (PW.pt (pw_and (pt_cmpR op_gt (pv 2) pe_int (nomark _)) (pw_and1 (pt_cmpR (geDK K hr.units) (pe_ix (ixL K) (pv 1) (pe_op op_sub (pv 2) pe_int) (fun _ _ => rfl)) (pe_ix (ixL K) (pv 1) (pv 2) (fun _ _ => rfl)) (nomark _))))))))
        (pss_one (ps_ret pe_bl))
        pss_nil)
      (pss_one (ps_for PassesOwn.never rfl (pi_range1 rfl T.b_range (pa_cons (pv 2) pa_nil)) (pg_name (i := 3) sc_is_cut.nd rfl (.inl rfl))
        (pss_one (ps_if (pt_val (pe_call G_crossing hr rfl T.m_crossing T.F_crossing.kp T.b_crossing .nil pass0 (pa_cons (pe_ix (ixL K) (pv 1) (pv 3) (fun _ _ => rfl)) (pa_cons (pe_ix (ixL K) (pv 1) (pv 2) (fun _ _ => rfl)) pa_nil))))
        (pss_one (ps_ret pe_bl))
        pss_nil))))))
      (pss_one (ps_ret pe_bl)))), ?_⟩
    refine q_when (et_or (et_test (ev_op (ev_var rfl) ev_c rv_I0)) fun _ => et_or (et_test (ev_op (ev_var rfl) ev_c rv_I0)) fun _ => et_test (ev_op (ev_lenLP (ev_var rfl) hL) (ev_op (ev_var rfl) ev_c rv_I0) (rv_ne rfl))) (fun hb H1 e1 => s_ret ev_c fun H2 e2 => q false H2 (e1.trans e2) (bfF fun z => ?_)) (fun hb H1 e1 => ?_)
    · simp only [Bool.or_eq_true, decide_eq_true_eq, Bool.not_eq_true', decide_eq_false_iff_not] at hb
      obtain ⟨z1, z2, z3, _⟩ := z
      rcases hb with hb | hb | hb
      · omega
      · omega
      · exact hb (congrArg V.int z3)
    · simp only [Bool.or_eq_false_iff, decide_eq_false_iff_not, Bool.not_eq_false', decide_eq_true_eq] at hb
      obtain ⟨hb1, hb2, hb3⟩ := hb
      have hlc : (ls.length : Int) = c - 3 := by injection hb3
      refine q_forR1 (n := (ls.length : Int)) (ea_cons (ev_lenLP (ev_var rfl) (hL.mono e1)) ea_nil) (by omega) (fun i σ' H' => ∃ x2 x3, σ' = [some (.int c), some (.ref a), x2, x3] ∧ Ex H H' ∧ ∀ k', k' < i → CutAt c ls k') (fun H2 e2 => ⟨_, _, rfl, e1.trans e2, fun k' h => absurd h (Nat.not_lt_zero _)⟩) (fun i σ' H' hi hP => ?_) (fun σ' H' hP => ?_)
      · obtain ⟨x2, x3, rfl, eH, hc⟩ := hP
        have hil : i < ls.length := by omega
        obtain ⟨x, hx, hxp⟩ := (hL.mono eH).gets hil
        refine q_when (b := !lineB c (lnD ls i) || (decide (0 < i) && !ltP (lnD ls (i - 1)) (lnD ls i))) (et_or (et_not (et_test (ev_call (z := .bl (lineB c (lnD ls i))) (ea_cons (ev_var (v := .int c) rfl) (ea_cons (ev_op (ev_var (v := .ref a) rfl) (ev_var (v := .int (i : Int)) rfl) hx) ea_nil)) fun G1 g1 Q' q' E' => ⟨c, x, _, rfl, hxp.mono g1, q'⟩))) fun _ => et_and (et_is (et_test (ev_op (ev_var (v := .int (i : Int)) rfl) ev_c rv_I0)) (decide_eq_decide.mpr (by omega))) fun h0 => ?_) (fun hb H2 e2 => s_ret ev_c fun H3 e3 => q false H3 ((eH.trans e2).trans e3) (bfF (isCut_not hil fun z => ?_))) (fun hb H2 e2 => ?_)
        · have h0 : 0 < i := by simpa using h0
          obtain ⟨y, hy, hyp⟩ := (hL.mono eH).gets (i := i - 1) (by omega)
          have hm1 : (i : Int) - 1 = ((i - 1 : Nat) : Int) := by omega
          have hix : Ev (tOp (rI0 fun i j => .int (i - j)) (tVar 2) (tC (.int 1))) [some (.int c), some (V.ref a), some (.int (i : Int)), x3] H' (.int ((i - 1 : Nat) : Int)) := by
            have := ev_op (σ := [some (.int c), some (V.ref a), some (.int (i : Int)), x3]) (H := H') (ev_var (v := .int (i : Int)) (i := 2) rfl) (ev_c (v := .int 1)) (rv_I0 (g := fun i j => .int (i - j)))
            rw [hm1] at this
            exact this
          exact et_test (ev_op (ev_op (ev_var (v := .ref a) rfl) hix hy) (ev_op (ev_var (v := .ref a) rfl) (ev_var (v := .int (i : Int)) rfl) hx) (rv_geP hyp hxp))
        · simp only [Bool.or_eq_true, Bool.not_eq_true', Bool.and_eq_true, decide_eq_true_eq] at hb
          rcases hb with hb | ⟨hb, hb'⟩
          · rw [z.1] at hb; cases hb
          · rw [z.2.1 hb] at hb'; cases hb'
        · simp only [Bool.or_eq_false_iff, Bool.not_eq_false', Bool.and_eq_false_iff, decide_eq_false_iff_not] at hb
          obtain ⟨hb1, hb2⟩ := hb
          refine s_forR1 (n := (i : Int)) (ea_cons (ev_var rfl) ea_nil) (by omega) (fun j σ' H' => ∃ x3, σ' = [some (.int c), some (.ref a), some (.int (i : Int)), x3] ∧ Ex H H' ∧ ∀ j', j' < j → crossB (lnD ls j') (lnD ls i) = false) (fun H3 e3 => ⟨_, rfl, (eH.trans e2).trans e3, fun j' h => absurd h (Nat.not_lt_zero _)⟩) (fun j σ' H3 hj hP => ?_) (fun σ' H3 hP => ?_)
          · obtain ⟨x3, rfl, e3, hj'⟩ := hP
            obtain ⟨x, hx, hxp⟩ := (hL.mono e3).gets hil
            obtain ⟨y, hy, hyp⟩ := (hL.mono e3).gets (i := j) (by omega)
            refine s_when (et_test (ev_call (z := .bl (crossB (lnD ls j) (lnD ls i))) (ea_cons (ev_op (ev_var (v := .ref a) rfl) (ev_var (v := .int (j : Int)) rfl) hy) (ea_cons (ev_op (ev_var (v := .ref a) rfl) (ev_var (v := .int (i : Int)) rfl) hx) ea_nil)) fun G1 g1 Q' q' E' => ⟨y, x, _, _, rfl, hyp.mono g1, hxp.mono g1, q'⟩)) (fun hcr H4 e4 => s_ret ev_c fun H5 e5 => q false H5 ((e3.trans e4).trans e5) (bfF (isCut_not hil fun z => ?_))) (fun hcr H4 e4 => ⟨_, rfl, e3.trans e4, fun j' h => ?_⟩)
            · rw [z.2.2 j (by omega)] at hcr
              cases hcr
            · by_cases e : j' = j
              · rw [e]; exact hcr
              · exact hj' j' (by omega)
          · obtain ⟨x3, rfl, e3, hj'⟩ := hP
            refine ⟨_, _, rfl, e3, fun k' h => ?_⟩
            by_cases e : k' = i
            · subst e
              exact ⟨hb1, fun h0 => hb2.resolve_left fun z => z h0, fun j hj => hj' j (by simpa using hj)⟩
            · exact hc k' (by omega)
      · obtain ⟨x2, x3, rfl, eH, hc⟩ := hP
        exact s_ret ev_c fun H3 e3 => q true H3 (eH.trans e3) (bfT ⟨by omega, by omega, hlc, fun k' h => hc k' (by simpa using h)⟩)
theorem inV_two (d a b : Int) : inV (.int d) [.int a, .int b] = (decide (d = a) || decide (d = b)) := by
  simp only [inV, List.any_cons, List.any_nil, eqV, Bool.or_false]
  by_cases h1 : a = d
  · simp [h1]
  · by_cases h2 : b = d
    · simp [h2]
    · have h3 : ¬ d = a := fun z => h1 z.symm
      have h4 : ¬ d = b := fun z => h2 z.symm
      simp [h1, h2, h3, h4]
theorem lineB_law (c : Int) (p : Ln) : ((decide (0 ≤ p.1) && (decide (p.1 < p.2) && decide (p.2 < c))) && !(decide (p.2 - p.1 = 1) || decide (p.2 - p.1 = c - 1))) = lineB c p := by
  unfold lineB
  rw [Bool.eq_iff_iff]
  simp only [Bool.and_eq_true, decide_eq_true_eq, Bool.not_eq_true', Bool.or_eq_false_iff, decide_eq_false_iff_not]
  omega
def sp_must_cut (K : Frag) (C : Addr) : Sp := fun vs H Q E => ∃ (c : Int) (a : Addr) (ls : List Ln), vs = [.int c, .ref a] ∧ LP K H a ls ∧ ls.length ≤ 100 ∧ ∀ H', Ex H H' → (IsCut c ls → Q .non H') ∧ (¬ IsCut c ls → E (.ref C) none H')
theorem ok_must_cut (T : Txt K mg) (G_is_cut : FnOk P w K mg base CX0 k T.f_is_cut T.d_is_cut ["corners", "lines"] (sp_is_cut K)) : FnOk P w K mg base (L2.CX P w) (k + 1) T.f_must_cut T.d_must_cut ["corners", "lines"] (sp_must_cut K T.c_NoCut) := by
  refine T.F_must_cut.okX sc_must_cut (fun vs H Q E h => ?_) (fun cdv A outer s H vs Q E hr h => ?_)
  · obtain ⟨c, a, ls, rfl, _⟩ := h
    rfl
  · obtain ⟨c, a, ls, rfl, hL, hl, q⟩ := h
    refine ⟨_, (pss_one (ps_if (pt_not (pt_val (pe_call G_is_cut hr rfl T.m_is_cut T.F_is_cut.kp T.b_is_cut .nil pass0 (pa_cons (pv 0) (pa_cons (pv 1) pa_nil)))))
        (pss_one (ps_raise rfl (takes_of rfl rfl rfl rfl) (pmk_own PySem.F.excBase_ValueError T.x_NoCut.xn T.x_NoCut.g T.x_NoCut.kp (raises_own T.x_NoCut.bs T.x_NoCut.ty) rfl)))
        pss_nil)), ?_⟩
    refine ⟨.int c, rfl, .ref a, rfl, c, a, ls, rfl, hL, hl, fun b H1 e1 hb => ?_⟩
    refine ⟨b, rfl, ?_⟩
    cases b with
    | true => exact (q H1 e1).1 (hb.mp rfl)
    | false => exact (q H1 e1).2 fun z => Bool.false_ne_true (hb.mpr z)
end
end AT

/-! ## sides, triangles -/
namespace AT
open PySem PySem.Spec PyProof.Rows L2 Evl
def sideB (c : Int) (ls : List Ln) (i j : Int) : Bool := decide (j - i = 1) || (decide (j - i = c - 1) || decide ((i, j) ∈ ls))
def sp_is_side (K : Frag) : Sp := fun vs H Q _ => ∃ (c : Int) (a : Addr) (ls : List Ln) (i j : Int), vs = [.int c, .ref a, .int i, .int j] ∧ LP K H a ls ∧ ∀ H', Ex H H' → Q (.bl (sideB c ls i j)) H'
theorem ev_opUL {r : R2} {σ : St} {H : Hp} {ta tb : TE} {xs : List V} {y z : V} (ha : EvU ta σ H xs) (hb : Ev tb σ H y) (hr : ∀ p H1, H1 p = some (.tup xs) → Ex H H1 → RV r (.ref p) y H1 z) : Ev (tOp r ta tb) σ H z := fun H1 e Q q =>
  ha H1 e _ fun p H2 hp e2 hp2 => hb H2 (e.trans e2) _ fun H3 e3 => hr p H3 (e3 _ _ hp2) ((e.trans e2).trans e3) H3 (Ex.refl _) Q fun H4 e4 => q H4 ((e2.trans e3).trans e4)
section
variable {P : Program} {w : World} {K : Frag} {mg : Str → Option Value} {base : Heap} {k : Nat}
theorem int_inj {a b : Int} : decide (V.int a = V.int b) = decide (a = b) := decide_eq_decide.mpr ⟨fun h => by injection h, fun h => by rw [h]⟩
theorem ok_is_side (T : Txt K mg) : FnOk P w K mg base CX0 (k + 1) T.f_is_side T.d_is_side ["corners", "lines", "one", "other"] (sp_is_side K) := by
  refine T.F_is_side.ok sc_is_side (fun vs H Q E h => ?_) (fun cdv A outer s H vs Q E hr h => ?_)
  · obtain ⟨c, a, ls, i, j, rfl, _⟩ := h
    rfl
  · obtain ⟨c, a, ls, i, j, rfl, hL, q⟩ := h
    refine ⟨_, (pss_one (ps_ret (pe_or (pe_cmpR op_eq (pe_op op_sub (pv 3) (pv 2)) pe_int (nomark _)) (pe_or (pe_cmpR op_eq (pe_op op_sub (pv 3) (pv 2)) (pe_op op_sub (pv 0) pe_int) (nomark _)) (pe_one (pe_cmpR (inDK K hr.units65) (pe_tup (pa_cons (pv 2) (pa_cons (pv 3) pa_nil))) (pv 1) rfl)))))), ?_⟩
    refine s_ret (ev_orV (ev_op (ev_op (ev_var rfl) (ev_var rfl) rv_I0) ev_c (rv_eq rfl)) fun _ => ev_orV (ev_op (ev_op (ev_var rfl) (ev_var rfl) rv_I0) (ev_op (ev_var rfl) ev_c rv_I0) (rv_eq rfl)) fun _ => ev_opUL (eu_tup (ea_cons (ev_var rfl) (ea_cons (ev_var rfl) ea_nil)) (by show 2 ≤ 100000; decide)) (ev_var (v := .ref a) rfl) fun p H1 hp e1 => rv_inP (p := (i, j)) (st_of hp) (hL.mono e1)) fun H1 e1 => ?_
    rw [int_inj, int_inj]
    exact q H1 e1
end
/-! ### triples -/
abbrev Tr := Nat × Nat × Nat
def trV (t : Tr) : List V := [.int (t.1 : Int), .int (t.2.1 : Int), .int (t.2.2 : Int)]
def OLT (H0 H : Hp) (p : Addr) (ts : List Tr) : Prop := H0 p = none ∧ ∃ as : List Addr, H p = some (.lst (as.map V.ref)) ∧ Paired (fun x t => H x = some (.tup (trV t))) as ts
theorem OLT.mono {H0 H H1 : Hp} {p : Addr} {ts : List Tr} (e : Ex H H1) (h : OLT H0 H p ts) : OLT H0 H1 p ts := by
  obtain ⟨h0, as, h1, h2⟩ := h
  exact ⟨h0, as, e _ _ h1, paired_mono h2 fun _ _ z => e _ _ z⟩
theorem OLT.back {H0 H H1 : Hp} {p : Addr} {ts : List Tr} (e : Ex H0 H1) (h : OLT H1 H p ts) : OLT H0 H p ts := ⟨fresh_back e h.1, h.2⟩
theorem OLT.push {H0 H : Hp} {p : Addr} {ts : List Tr} {t : Tr} (h : OLT H0 H p ts) : ∃ vs : List V, H p = some (.lst vs) ∧ vs.length = ts.length ∧ ∀ H1 x, Ex H H1 → H1 x = some (.tup (trV t)) → OLT H0 (upd H1 p (.lst (vs ++ [.ref x]))) p (ts ++ [t]) := by
  obtain ⟨h0, as, h1, h2⟩ := h
  refine ⟨_, h1, by rw [List.length_map, h2.length], fun H1 x e hx => ⟨h0, as ++ [x], by rw [upd_same, List.map_append]; rfl, ?_⟩⟩
  have h3 : Paired (fun x t => H1 x = some (.tup (trV t))) (as ++ [x]) (ts ++ [t]) := paired_append (paired_mono h2 fun _ _ z => e _ _ z) (.cons hx .nil)
  refine paired_mono h3 fun y u hy => ?_
  rw [upd_ne]
  · exact hy
  · intro z
    subst z
    rw [e _ _ h1] at hy
    cases hy
def triB (n : Nat) (ls : List Ln) (a b c : Nat) : Bool := sideB (n : Int) ls a b && (sideB (n : Int) ls b c && sideB (n : Int) ls a c)
def tri1 (n : Nat) (ls : List Ln) (a b m : Nat) : List Tr := ((List.range' (b + 1) m).filter fun c => triB n ls a b c).map fun c => (a, b, c)
def tri2 (n : Nat) (ls : List Ln) (a m : Nat) : List Tr := (List.range' (a + 1) m).flatMap fun b => tri1 n ls a b (n - (b + 1))
def tri3 (n : Nat) (ls : List Ln) (m : Nat) : List Tr := (List.range m).flatMap fun a => tri2 n ls a (n - (a + 1))
def tris (n : Nat) (ls : List Ln) : List Tr := tri3 n ls n
theorem flat_lenT {α β : Type} {g : α → List β} {c : Nat} : ∀ l : List α, (∀ x, x ∈ l → (g x).length ≤ c) → (l.flatMap g).length ≤ l.length * c
  | [], _ => by simp
  | a :: r, h => by
    have h1 := h a List.mem_cons_self
    have h2 := flat_lenT r fun x hx => h x (List.mem_cons_of_mem _ hx)
    rw [List.flatMap_cons, List.length_append, List.length_cons, Nat.add_mul]
    omega
theorem tri1_len {n : Nat} {ls : List Ln} {a b m : Nat} : (tri1 n ls a b m).length ≤ m := by
  unfold tri1
  rw [List.length_map]
  exact Nat.le_trans (List.length_filter_le _ _) (by rw [List.length_range']; exact Nat.le_refl _)
theorem tri2_len {n : Nat} {ls : List Ln} {a m : Nat} : (tri2 n ls a m).length ≤ m * n := by
  unfold tri2
  refine Nat.le_trans (flat_lenT (c := n) _ fun b _ => Nat.le_trans tri1_len (by omega)) ?_
  rw [List.length_range']
  exact Nat.le_refl _
theorem tri3_len {n : Nat} {ls : List Ln} {m : Nat} (h : m ≤ n) : (tri3 n ls m).length ≤ m * (n * n) := by
  unfold tri3
  refine Nat.le_trans (flat_lenT (c := n * n) _ fun a _ => Nat.le_trans tri2_len (Nat.mul_le_mul_right n (by omega))) ?_
  rw [List.length_range]
  exact Nat.le_refl _
theorem tri1_succ {n : Nat} {ls : List Ln} {a b m : Nat} : tri1 n ls a b (m + 1) = tri1 n ls a b m ++ if triB n ls a b (b + 1 + m) = true then [(a, b, b + 1 + m)] else [] := by
  unfold tri1
  rw [List.range'_1_concat, List.filter_append, List.map_append, List.filter_cons]
  split <;> rfl
theorem tri2_succ {n : Nat} {ls : List Ln} {a m : Nat} : tri2 n ls a (m + 1) = tri2 n ls a m ++ tri1 n ls a (a + 1 + m) (n - (a + 1 + m + 1)) := by
  unfold tri2
  rw [List.range'_1_concat, List.flatMap_append]
  simp
theorem tri3_succ {n : Nat} {ls : List Ln} {m : Nat} : tri3 n ls (m + 1) = tri3 n ls m ++ tri2 n ls m (n - (m + 1)) := by
  unfold tri3
  rw [List.range_succ, List.flatMap_append]
  simp
end AT

/-! ## triangles -/
namespace AT
open PySem PySem.Spec PyProof.Rows L2 Evl
def sp_triangles (K : Frag) : Sp := fun vs H Q _ => ∃ (n : Nat) (a : Addr) (ls : List Ln), vs = [.int (n : Int), .ref a] ∧ LP K H a ls ∧ n ≤ 20 ∧ ∀ H' p, Ex H H' → OLT H H' p (tris n ls) → Q (.ref p) H'
section
variable {P : Program} {w : World} {K : Frag} {mg : Str → Option Value} {base : Heap} {k : Nat}
theorem ok_triangles (T : Txt K mg) (G_is_side : FnOk P w K mg base CX0 k T.f_is_side T.d_is_side ["corners", "lines", "one", "other"] (sp_is_side K)) : FnOk P w K mg base CX0 (k + 1) T.f_triangles T.d_triangles ["corners", "lines"] (sp_triangles K) := by
  refine T.F_triangles.ok sc_triangles (fun vs H Q E h => ?_) (fun cdv A outer s H vs Q E hr h => ?_)
  · obtain ⟨n, a, ls, rfl, _⟩ := h
    rfl
  · obtain ⟨n, a, ls, rfl, hL, hn, q⟩ := h
    refine ⟨_, (pss_cons (ps_set (i := 2) sc_triangles.nd rfl (.inl rfl) (pe_lst pa_nil))
      (pss_cons (ps_for PassesOwn.never rfl (pi_range1 rfl T.b_range (pa_cons (pv 0) pa_nil)) (pg_name (i := 3) sc_triangles.nd rfl (.inl rfl))
        (pss_one (ps_for PassesOwn.never rfl (pi_range2 rfl T.b_range (pa_cons (pe_op op_add (pv 3) pe_int) (pa_cons (pv 0) pa_nil))) (pg_name (i := 4) sc_triangles.nd rfl (.inl rfl))
        (pss_one (ps_for PassesOwn.never rfl (pi_range2 rfl T.b_range (pa_cons (pe_op op_add (pv 4) pe_int) (pa_cons (pv 0) pa_nil))) (pg_name (i := 5) sc_triangles.nd rfl (.inl rfl))
        (pss_one (ps_if (PW.pt (pw_and (pt_val (pe_call G_is_side hr rfl T.m_is_side T.F_is_side.kp T.b_is_side .nil pass0 (pa_cons (pv 0) (pa_cons (pv 1) (pa_cons (pv 3) (pa_cons (pv 4) pa_nil)))))) (pw_and (pt_val (pe_call G_is_side hr rfl T.m_is_side T.F_is_side.kp T.b_is_side .nil pass0 (pa_cons (pv 0) (pa_cons (pv 1) (pa_cons (pv 4) (pa_cons (pv 5) pa_nil)))))) (pw_and1 (pt_val (pe_call G_is_side hr rfl T.m_is_side T.F_is_side.kp T.b_is_side .nil pass0 (pa_cons (pv 0) (pa_cons (pv 1) (pa_cons (pv 3) (pa_cons (pv 5) pa_nil))))))))))
        (pss_one (ps_expr (bmK K PySem.F.plainAttrs_list PySem.F.slot_list_append PySem.F.type_list_append mt_append (pv 2) (pa_cons (pe_tup (pa_cons (pv 3) (pa_cons (pv 4) (pa_cons (pv 5) pa_nil)))) pa_nil))))
        pss_nil)))))))
      (pss_one (ps_ret (pv 2))))), ?_⟩
    refine q_asgL (xs := []) (el_lst ea_nil (by simp)) fun p H1 hp e1 hp1 => ?_
    refine q_forR1 (n := (n : Int)) (ea_cons (ev_var rfl) ea_nil) (by omega) (fun i σ' H' => ∃ x3 x4 x5, σ' = [some (.int (n : Int)), some (.ref a), some (.ref p), x3, x4, x5] ∧ Ex H H' ∧ OLT H H' p (tri3 n ls i)) (fun H2 e2 => ⟨_, _, _, rfl, e1.trans e2, hp, [], e2 _ _ hp1, .nil⟩) (fun i σ' H' hi hP => ?_) (fun σ' H' hP => ?_)
    · obtain ⟨x3, x4, x5, rfl, eH, hO⟩ := hP
      have hin : i < n := by omega
      have hl3 := tri3_len (ls := ls) (n := n) (m := i) (by omega)
      have hl3' : i * (n * n) ≤ 20 * 400 := Nat.mul_le_mul (by omega) (Nat.mul_le_mul hn hn)
      refine s_forR2 (lo := (i : Int) + 1) (n := (n : Int)) (ea_cons (ev_op (ev_var rfl) ev_c rv_I0) (ea_cons (ev_var rfl) ea_nil)) (by omega) (fun t σ' H' => ∃ x4 x5, σ' = [some (.int (n : Int)), some (.ref a), some (.ref p), some (.int (i : Int)), x4, x5] ∧ Ex H H' ∧ OLT H H' p (tri3 n ls i ++ tri2 n ls i t)) (fun H2 e2 => ⟨_, _, rfl, eH.trans e2, by
        have : tri2 n ls i 0 = [] := rfl
        rw [this, List.append_nil]
        exact hO.mono e2⟩) (fun t σ' H2 ht hP => ?_) (fun σ' H2 hP => ?_)
      · obtain ⟨x4, x5, rfl, e2, hO2⟩ := hP
        have eb : (i : Int) + 1 + (t : Int) = ((i + 1 + t : Nat) : Int) := by omega
        rw [eb]
        have hbn : i + 1 + t < n := by omega
        have hl2 := tri2_len (ls := ls) (n := n) (a := i) (m := t)
        have hl2' : t * n ≤ 20 * 20 := Nat.mul_le_mul (by omega) hn
        refine s_forR2 (lo := ((i + 1 + t : Nat) : Int) + 1) (n := (n : Int)) (ea_cons (ev_op (ev_var rfl) ev_c rv_I0) (ea_cons (ev_var rfl) ea_nil)) (by omega) (fun u σ' H' => ∃ x5, σ' = [some (.int (n : Int)), some (.ref a), some (.ref p), some (.int (i : Int)), some (.int ((i + 1 + t : Nat) : Int)), x5] ∧ Ex H H' ∧ OLT H H' p (tri3 n ls i ++ tri2 n ls i t ++ tri1 n ls i (i + 1 + t) u)) (fun H3 e3 => ⟨_, rfl, e2.trans e3, by
          have : tri1 n ls i (i + 1 + t) 0 = [] := rfl
          rw [this, List.append_nil]
          exact hO2.mono e3⟩) (fun u σ' H3 hu hP => ?_) (fun σ' H3 hP => ?_)
        · obtain ⟨x5, rfl, e3, hO3⟩ := hP
          have ec : ((i + 1 + t : Nat) : Int) + 1 + (u : Int) = ((i + 1 + t + 1 + u : Nat) : Int) := by omega
          rw [ec]
          have hl1 := tri1_len (ls := ls) (n := n) (a := i) (b := i + 1 + t) (m := u)
          have hside : ∀ (x y : Nat) (jx jy : Nat) (H4 : Hp), Ex H3 H4 → [some (V.int (n : Int)), some (.ref a), some (.ref p), some (.int (i : Int)), some (.int ((i + 1 + t : Nat) : Int)), some (.int ((i + 1 + t + 1 + u : Nat) : Int))][jx]? = some (some (.int (x : Int))) → [some (V.int (n : Int)), some (.ref a), some (.ref p), some (.int (i : Int)), some (.int ((i + 1 + t : Nat) : Int)), some (.int ((i + 1 + t + 1 + u : Nat) : Int))][jy]? = some (some (.int (y : Int))) →
              Ev (tCall (sp_is_side K) [] E0 (tCons (tVar 0) (tCons (tVar 1) (tCons (tVar jx) (tCons (tVar jy) tNil))))) [some (V.int (n : Int)), some (.ref a), some (.ref p), some (.int (i : Int)), some (.int ((i + 1 + t : Nat) : Int)), some (.int ((i + 1 + t + 1 + u : Nat) : Int))] H4 (.bl (sideB (n : Int) ls x y)) := fun x y jx jy H4 e4 h1 h2 =>
            ev_call (ea_cons (ev_var (v := .int (n : Int)) (i := 0) rfl) (ea_cons (ev_var (v := .ref a) (i := 1) rfl) (ea_cons (ev_var h1) (ea_cons (ev_var h2) ea_nil)))) fun G1 g1 Q' q' E' => ⟨_, a, ls, _, _, rfl, hL.mono ((e3.trans e4).trans g1), q'⟩
          refine s_when (b := triB n ls i (i + 1 + t) (i + 1 + t + 1 + u)) (et_and (et_test (hside _ _ 3 4 H3 (Ex.refl _) rfl rfl)) fun _ => et_and (et_test (hside _ _ 4 5 H3 (Ex.refl _) rfl rfl)) fun _ => et_test (hside _ _ 3 5 H3 (Ex.refl _) rfl rfl)) (fun hb H4 e4 => ?_) (fun hb H4 e4 => ?_)
          · obtain ⟨vs, hv1, hv2, hv3⟩ := (hO3.mono e4).push (t := (i, i + 1 + t, i + 1 + t + 1 + u))
            refine s_appU hv1 (ev_var rfl) (eu_tup (ea_cons (ev_var (v := .int (i : Int)) (i := 3) rfl) (ea_cons (ev_var (v := .int ((i + 1 + t : Nat) : Int)) (i := 4) rfl) (ea_cons (ev_var (v := .int ((i + 1 + t + 1 + u : Nat) : Int)) (i := 5) rfl) ea_nil))) (by show 3 ≤ 100000; decide)) (by rw [hv2, List.length_append, List.length_append]; omega) fun x H5 hx e5 hx5 => ⟨_, rfl, Ex.mut ((e3.trans e4).trans e5) hO.1, ?_⟩
            rw [tri1_succ, if_pos hb, ← List.append_assoc]
            exact hv3 H5 x e5 hx5
          · refine ⟨_, rfl, e3.trans e4, ?_⟩
            rw [tri1_succ, if_neg (by rw [hb]; decide), List.append_nil]
            exact hO3.mono e4
        · obtain ⟨x5, rfl, e3, hO3⟩ := hP
          refine ⟨_, _, rfl, e3, ?_⟩
          rw [tri2_succ, ← List.append_assoc]
          have : ((n : Int) - (((i + 1 + t : Nat) : Int) + 1)).toNat = n - (i + 1 + t + 1) := by omega
          rw [this] at hO3
          exact hO3
      · obtain ⟨x4, x5, rfl, e2, hO2⟩ := hP
        refine ⟨_, _, _, rfl, e2, ?_⟩
        rw [tri3_succ]
        have : ((n : Int) - ((i : Int) + 1)).toNat = n - (i + 1) := by omega
        rw [this] at hO2
        exact hO2
    · obtain ⟨x3, x4, x5, rfl, eH, hO⟩ := hP
      exact s_ret (ev_var rfl) fun H2 e2 => q H2 p (eH.trans e2) (hO.mono e2)
end
end AT

/-! ## the law's own triangles -/
namespace AT
open PySem PySem.Spec PyProof.Rows L2 Evl
section
variable {P : Program} {w : World} {K : Frag} {mg : Str → Option Value} {base : Heap} {k : Nat}
theorem er_some3 {σ : St} {H : Hp} {t1 t2 t3 : TE} {p1 p2 p3 : Ln} (h1 : EvU t1 σ H [.int p1.1, .int p1.2]) (h2 : EvU t2 σ H [.int p2.1, .int p2.2]) (h3 : EvU t3 σ H [.int p3.1, .int p3.2]) : Er (tLst (tCons t1 (tCons t2 (tCons t3 tNil)))) σ H (RLP K [p1, p2, p3]) := fun H1 e Q q =>
  h1 H1 e _ fun x H2 hx e2 hx2 => h2 H2 (e.trans e2) _ fun y H3 hy e3 hy3 => h3 H3 ((e.trans e2).trans e3) _ fun z H4 hz e4 hz4 => ⟨by show 3 ≤ sizeLine; decide, fun p hp => by
    have en : Ex H4 (upd H4 p (.lst [.ref x, .ref y, .ref z])) := Ex.new hp
    refine q _ _ (((e2.trans e3).trans e4).trans en) ⟨p, rfl, fresh_back ((e2.trans e3).trans e4) hp, [x, y, z], by rw [upd_same]; rfl, .cons ?_ (.cons ?_ (.cons ?_ .nil))⟩
    · exact st_of (((e3.trans e4).trans en) _ _ hx2)
    · exact st_of ((e4.trans en) _ _ hy3)
    · exact st_of (en _ _ hz4)⟩
theorem side_law (c : Int) (ls : List Ln) (p : Ln) : ((decide (p.2 - p.1 = 1) || decide (p.2 - p.1 = c - 1)) || decide (p ∈ ls)) = sideB c ls p.1 p.2 := by
  unfold sideB
  rw [Bool.or_assoc]
theorem three_given (f : Nat → Bool) (v : Nat → V) : decide (V.int ((given 3 f v).length : Int) = V.int 3) = (f 0 && (f 1 && f 2)) := by
  unfold given
  rw [List.length_map]
  show decide (V.int (([0, 1, 2].filter f).length : Int) = V.int 3) = _
  cases h0 : f 0 <;> cases h1 : f 1 <;> cases h2 : f 2 <;> simp [List.filter_cons, h0, h1, h2]
end
end AT

/-! ## the form of a cut -/
namespace AT
open PySem PySem.Spec PyProof.Rows L2 Evl
/-- what is no list of n ints stays -/
def Kp (n : Nat) (H H1 : Hp) : Prop := ∀ (y : Addr) (o : HO), H y = some o → (∀ xs : List Int, xs.length = n → o ≠ .lst (xs.map V.int)) → H1 y = some o
theorem Kp.of {n : Nat} {H H1 : Hp} (e : Ex H H1) : Kp n H H1 := fun y o h _ => e y o h
theorem Kp.trans {n : Nat} {H H1 H2 : Hp} (a : Kp n H H1) (b : Kp n H1 H2) : Kp n H H2 := fun y o h ho => b y o (a y o h ho) ho
section
variable {K : Frag} {σ : St} {H H0 : Hp} {te ti tj tv : TE} {p : Addr} {D : Ends} {tz : TS}
theorem s_setFmK {n i j : Nat} {f : Nat → Nat → Int} {w : Int} (h : OLLI H0 H p (Fm n f)) (e0 : Ex H0 H) (hin : i < n) (hjn : j < n) (he : Ev te σ H (.int w)) (ho : Ev tv σ H (.ref p)) (hi : Ev ti σ H (.int (i : Int))) (hj' : Ev tj σ H (.int (j : Int)))
    (k : ∀ H1, Ex H0 H1 → Kp n H H1 → OLLI H0 H1 p (Fm n (setF f i j w)) → D.nx σ H1) : tAsg te (gSub (tOp (rIxL K) tv ti) tj rSetL) D σ H := by
  obtain ⟨as, x, h1, h2, h3, h4, h5⟩ := h.store (j := j) (w := w) (fm_get hin)
  refine s_setL (l := x) (xs := ((List.range n).map (f i)).map V.int) (j := j) h4 he (ev_op ho hi (rv_ixL (sq_of h1) (atI_n (by rw [List.getElem?_map, h2]; rfl)))) hj' (by simpa using hjn) fun H1 e1 => ?_
  have h6 := h5 H1 e1
  rw [setF_fm hin hjn] at h6
  refine k _ (Ex.mut (e0.trans e1) h3) (fun y o hy hno => ?_) h6
  rw [upd_ne]
  · exact e1 _ _ hy
  · intro z
    subst z
    rw [h4] at hy
    injection hy with hy
    exact hno ((List.range n).map (f i)) (by simp) hy.symm
theorem q_setFmK {n i j : Nat} {f : Nat → Nat → Int} {w : Int} (h : OLLI H0 H p (Fm n f)) (e0 : Ex H0 H) (hin : i < n) (hjn : j < n) (he : Ev te σ H (.int w)) (ho : Ev tv σ H (.ref p)) (hi : Ev ti σ H (.int (i : Int))) (hj' : Ev tj σ H (.int (j : Int)))
    (k : ∀ H1, Ex H0 H1 → Kp n H H1 → OLLI H0 H1 p (Fm n (setF f i j w)) → tz D σ H1) : tSeq (tAsg te (gSub (tOp (rIxL K) tv ti) tj rSetL)) tz D σ H :=
  s_setFmK (D := { D with nx := tz D }) h e0 hin hjn he ho hi hj' k
end
/-- one arrow from p's place to q's, where both are lines -/
def pairStep (ls : List Ln) (f : Nat → Nat → Int) (pq : Ln × Ln) : Nat → Nat → Int :=
  if pq.1 ∈ ls ∧ pq.2 ∈ ls then setF (setF f (ls.idxOf pq.1) (ls.idxOf pq.2) (f (ls.idxOf pq.1) (ls.idxOf pq.2) + 1)) (ls.idxOf pq.2) (ls.idxOf pq.1) (setF f (ls.idxOf pq.1) (ls.idxOf pq.2) (f (ls.idxOf pq.1) (ls.idxOf pq.2) + 1) (ls.idxOf pq.2) (ls.idxOf pq.1) - 1) else f
def sidesOf (t : Tr) : List Ln := [((t.1 : Int), (t.2.1 : Int)), ((t.2.1 : Int), (t.2.2 : Int)), ((t.1 : Int), (t.2.2 : Int))]
def triPairs (t : Tr) : List (Ln × Ln) := [(lnD (sidesOf t) 0, lnD (sidesOf t) 1), (lnD (sidesOf t) 1, lnD (sidesOf t) 2), (lnD (sidesOf t) 2, lnD (sidesOf t) 0)]
def triStep (ls : List Ln) (f : Nat → Nat → Int) (t : Tr) : Nat → Nat → Int := (triPairs t).foldl (pairStep ls) f
def formF (n : Nat) (ls : List Ln) : Nat → Nat → Int := (tris n ls).foldl (triStep ls) fun _ _ => 0
def sp_form_by (K : Frag) : Sp := fun vs H Q _ => ∃ (n : Nat) (a : Addr) (ls : List Ln), vs = [.int (n : Int), .ref a] ∧ LP K H a ls ∧ n ≤ 20 ∧ 1 ≤ ls.length ∧ ls.length ≤ 20 ∧ ∀ H' p, Ex H H' → OLLI H H' p (Fm ls.length (formF n ls)) → Q (.ref p) H'
section
variable {P : Program} {w : World} {K : Frag} {mg : Str → Option Value} {base : Heap} {k : Nat}
/-- [[0 for .. in ls] for .. in ls] -/
theorem er_zeros {σ : St} {H : Hp} {a : Addr} {ls : List Ln} {t1 t2 : TE} {j1 j2 : Nat} {v1 v2 : List Nat} (h1 : Ev t1 σ H (.ref a)) (hL : LP K H a ls) (hl : ls.length ≤ 20)
    (hw1 : ∀ x, wipe ((wipe σ v1).set j1 (some x)) v1 = wipe σ v1) (hw2 : ∀ x y, wipe ((wipe ((wipe σ v1).set j1 (some x)) v2).set j2 (some y)) v2 = wipe ((wipe σ v1).set j1 (some x)) v2)
    (h2 : ∀ x H1, Ex H H1 → Ev t2 ((wipe σ v1).set j1 (some x)) H1 (.ref a)) :
    Er (tLc (iList K t1) (gName j1) tYes (tLc (iList K t2) (gName j2) tYes (tC (.int 0)) v2) v1) σ H (RM (Fm ls.length fun _ _ => 0)) := by
  obtain ⟨as, hA, hal⟩ := hL.len
  have := em_lcL (K := K) (te := tLc (iList K t2) (gName j2) tYes (tC (.int 0)) v2) (fun _ => (List.range ls.length).map fun _ => (0 : Int)) h1 hA (by rw [List.length_map]; omega) hw1 (fun i x H1 e1 hx => er_of_evl (by
    have := el_lcL (K := K) (te := tC (.int 0)) (t := tYes) (fun _ => true) (fun _ => .int 0) (h2 x H1 e1) (ex_l e1 hA) (by rw [List.length_map]; omega) (hw2 x) (fun i y G1 g1 hy G2 g2 Q' q' => q' G2 (Ex.refl _)) (fun i y G1 g1 hy _ => ev_c)
    rw [List.length_map, hal, given_all] at this
    exact this))
  rw [List.length_map, hal] at this
  exact this
theorem lp_kp {n : Nat} {H H1 : Hp} {m : Addr} {ms : List Addr} {ss : List Ln} (h1 : H m = some (.lst (ms.map V.ref))) (h2 : Paired (fun x p => PT K H x p) ms ss) (e : Ex H H1) : LP K H1 m ss := ⟨ms, sq_of (e _ _ h1), paired_mono h2 fun _ _ z => z.mono e⟩
end
end AT

/-! ## sum of a tuple; loops over what an expression makes; triples kept while a form's rows change -/
namespace AT
open PySem PySem.Spec PyProof.Rows L2 Evl
section
variable {X : Cx}
def rSumT (K : Frag) : List V → Hp → VK → Prop := fun vs H Q => ∃ (a : Addr) (ns : List Int), vs = [V.ref a] ∧ SqT K H a (ns.map V.int) ∧ Q (.int ns.sum) H
theorem sumTK (K : Frag) (hc : X.calm = true) (h : X.K = K := by rfl) : CallR X (.builtin "sum") (rSumT K) := by
  subst h
  intro pins s σ H vs us Q I r h
  obtain ⟨a, ns, rfl, hs, q⟩ := h
  obtain ⟨its, rv, ht, _⟩ := I.tuple hs
  rw [Vals.ref1 r]
  have hi := rv.ints
  obtain ⟨xs, e⟩ := hi.allInts.items
  have hn : numsOf (intItems xs).toList = ns := by rw [← e]; exact hi.numsOf
  rw [nums_intItems] at hn
  rw [e] at ht
  refine PySem.W.ktm_sumG (I.ok.hd hc) ht fun h' tk t' hk => ?_
  rw [preSum_eq, List.take_of_length_le (by simp), hn]
  exact ⟨.int _, H, I.kept hk, ⟨_, rfl⟩, q⟩
end
section
variable {K : Frag} {σ : St} {H H0 H1 H' : Hp} {te tl : TE} {p x : Addr} {D : Ends} {tz tu : TS} {g : TG} {R : R3}
theorem ev_sumT {ns : List Int} {a : Addr} (h : Ev te σ H (.ref a)) (hT : SqT K H a (ns.map V.int)) : Ev (tCB (rSumT K) (tCons te tNil)) σ H (.int ns.sum) := fun H1 e Q q =>
  h H1 e _ fun H2 e2 => ⟨a, ns, rfl, ex_t (e.trans e2) hT, q H2 e2⟩
theorem s_forE (h : Er tl σ H R) (k : ∀ v H1, Ex H H1 → R H H1 v → ∃ a xs, v = .ref a ∧ SqL K H1 a xs ∧ ∃ Pv : Nat → St → Hp → Prop, Pv 0 σ H1 ∧ (∀ i σ' H', i ≤ xs.length → Pv i σ' H' → SqL K H' a xs) ∧
    (∀ i x σ' H', xs[i]? = some x → Pv i σ' H' → g x σ' H' fun σ2 H2 => tu { D with nx := Pv (i + 1), ct := Pv (i + 1), bk := D.nx } σ2 H2) ∧ ∀ σ' H', Pv xs.length σ' H' → D.nx σ' H') : tFor (iList K tl) g tu D σ H :=
  h H (Ex.refl H) _ fun v H1 e r => by
    obtain ⟨a, xs, rfl, hx, Pv, h0, hl, hs, hd⟩ := k v H1 e r
    exact ⟨a, rfl, ⟨xs, hx⟩, for_list Pv h0 hl hs hd⟩
theorem q_forE (h : Er tl σ H R) (k : ∀ v H1, Ex H H1 → R H H1 v → ∃ a xs, v = .ref a ∧ SqL K H1 a xs ∧ ∃ Pv : Nat → St → Hp → Prop, Pv 0 σ H1 ∧ (∀ i σ' H', i ≤ xs.length → Pv i σ' H' → SqL K H' a xs) ∧
    (∀ i x σ' H', xs[i]? = some x → Pv i σ' H' → g x σ' H' fun σ2 H2 => tu { D with nx := Pv (i + 1), ct := Pv (i + 1), bk := tz D } σ2 H2) ∧ ∀ σ' H', Pv xs.length σ' H' → tz D σ' H') : tSeq (tFor (iList K tl) g tu) tz D σ H :=
  s_forE (D := { D with nx := tz D }) h k
/-- a new list of triples -/
def ROT (ts : List Tr) : R3 := fun H1 H2 v => ∃ p, v = .ref p ∧ OLT H1 H2 p ts
theorem mon_ROT {ts : List Tr} : Mon (ROT ts) := ⟨fun e ⟨p, h, q⟩ => ⟨p, h, q.mono e⟩, fun e ⟨p, h, q⟩ => ⟨p, h, q.back e⟩⟩
theorem er_tris {ta : TA} {E : XK} {n : Nat} {a : Addr} {ls : List Ln} (h : EvA ta σ H [.int (n : Int), .ref a]) (hL : LP K H a ls) (hn : n ≤ 20) : Er (tCall (sp_triangles K) [] E ta) σ H (ROT (tris n ls)) :=
  er_call mon_ROT h fun H1 e1 Q q E => ⟨n, a, ls, rfl, hL.mono e1, hn, fun H' p e hO => q _ H' e ⟨p, rfl, hO⟩⟩
theorem kp_lst {n : Nat} {t : Addr} {as : List Addr} (hn : 1 ≤ n) (k : Kp n H H') (h : H t = some (.lst (as.map V.ref))) : H' t = some (.lst (as.map V.ref)) := k t _ h fun xs hx e => by
  injection e with e
  have hl := congrArg List.length e
  rw [List.length_map, List.length_map] at hl
  cases as with
  | nil => simp at hl; omega
  | cons a as =>
    cases xs with
    | nil => simp at hl
    | cons x xs => simp at e
theorem kp_tup {n : Nat} {vs : List V} (k : Kp n H H') (h : H x = some (.tup vs)) : H' x = some (.tup vs) := k x _ h fun xs _ e => nomatch e
theorem OLT.kp {n : Nat} {ts : List Tr} (hn : 1 ≤ n) (h : OLT H0 H p ts) (k : Kp n H H') : OLT H0 H' p ts := by
  obtain ⟨h0, as, h1, h2⟩ := h
  exact ⟨h0, as, kp_lst hn k h1, paired_mono h2 fun _ _ z => kp_tup k z⟩
/-- a list of pairs, each an object of its own here -/
def LPH (H : Hp) (m : Addr) (ss : List Ln) : Prop := ∃ ms : List Addr, H m = some (.lst (ms.map V.ref)) ∧ Paired (fun x p => H x = some (.tup [.int p.1, .int p.2])) ms ss
theorem LPH.lp {m : Addr} {ss : List Ln} (h : LPH H m ss) : LP K H m ss := by
  obtain ⟨ms, h1, h2⟩ := h
  exact ⟨ms, sq_of h1, paired_mono h2 fun _ _ z => st_of z⟩
theorem LPH.kp {n : Nat} {m : Addr} {ss : List Ln} (hn : 1 ≤ n) (h : LPH H m ss) (k : Kp n H H') : LPH H' m ss := by
  obtain ⟨ms, h1, h2⟩ := h
  exact ⟨ms, kp_lst hn k h1, paired_mono h2 fun _ _ z => kp_tup k z⟩
theorem LPH.mono {m : Addr} {ss : List Ln} (e : Ex H H') (h : LPH H m ss) : LPH H' m ss := by
  obtain ⟨ms, h1, h2⟩ := h
  exact ⟨ms, e _ _ h1, paired_mono h2 fun _ _ z => e _ _ z⟩
def RLPH (ss : List Ln) : R3 := fun H1 H2 v => ∃ p, v = .ref p ∧ H1 p = none ∧ LPH H2 p ss
theorem er_sides3 {t1 t2 t3 : TE} {p1 p2 p3 : Ln} (h1 : EvU t1 σ H [.int p1.1, .int p1.2]) (h2 : EvU t2 σ H [.int p2.1, .int p2.2]) (h3 : EvU t3 σ H [.int p3.1, .int p3.2]) : Er (tLst (tCons t1 (tCons t2 (tCons t3 tNil)))) σ H (RLPH [p1, p2, p3]) := fun H1 e Q q =>
  h1 H1 e _ fun x H2 hx e2 hx2 => h2 H2 (e.trans e2) _ fun y H3 hy e3 hy3 => h3 H3 ((e.trans e2).trans e3) _ fun z H4 hz e4 hz4 => ⟨by show 3 ≤ sizeLine; decide, fun p hp => by
    have en : Ex H4 (upd H4 p (.lst [.ref x, .ref y, .ref z])) := Ex.new hp
    exact q _ _ (((e2.trans e3).trans e4).trans en) ⟨p, rfl, fresh_back ((e2.trans e3).trans e4) hp, [x, y, z], by rw [upd_same]; rfl, .cons (((e3.trans e4).trans en) _ _ hx2) (.cons ((e4.trans en) _ _ hy3) (.cons (en _ _ hz4) .nil))⟩⟩
theorem er_sides4 {t1 t2 t3 t4 : TE} {p1 p2 p3 p4 : Ln} (h1 : EvU t1 σ H [.int p1.1, .int p1.2]) (h2 : EvU t2 σ H [.int p2.1, .int p2.2]) (h3 : EvU t3 σ H [.int p3.1, .int p3.2]) (h4 : EvU t4 σ H [.int p4.1, .int p4.2]) : Er (tLst (tCons t1 (tCons t2 (tCons t3 (tCons t4 tNil))))) σ H (RLPH [p1, p2, p3, p4]) := fun H1 e Q q =>
  h1 H1 e _ fun x H2 hx e2 hx2 => h2 H2 (e.trans e2) _ fun y H3 hy e3 hy3 => h3 H3 ((e.trans e2).trans e3) _ fun z H4 hz e4 hz4 => h4 H4 (((e.trans e2).trans e3).trans e4) _ fun u H5 hu e5 hu5 => ⟨by show 4 ≤ sizeLine; decide, fun p hp => by
    have en : Ex H5 (upd H5 p (.lst [.ref x, .ref y, .ref z, .ref u])) := Ex.new hp
    exact q _ _ ((((e2.trans e3).trans e4).trans e5).trans en) ⟨p, rfl, fresh_back (((e2.trans e3).trans e4).trans e5) hp, [x, y, z, u], by rw [upd_same]; rfl, .cons ((((e3.trans e4).trans e5).trans en) _ _ hx2) (.cons (((e4.trans e5).trans en) _ _ hy3) (.cons ((e5.trans en) _ _ hz4) (.cons (en _ _ hu5) .nil)))⟩⟩
theorem er_sides1 {t1 : TE} {p1 : Ln} (h1 : EvU t1 σ H [.int p1.1, .int p1.2]) : Er (tLst (tCons t1 tNil)) σ H (RLPH [p1]) := fun H1 e Q q =>
  h1 H1 e _ fun x H2 hx e2 hx2 => ⟨by show 1 ≤ sizeLine; decide, fun p hp => by
    have en : Ex H2 (upd H2 p (.lst [.ref x])) := Ex.new hp
    exact q _ _ (e2.trans en) ⟨p, rfl, fresh_back e2 hp, [x], by rw [upd_same]; rfl, .cons (en _ _ hx2) .nil⟩⟩
theorem er_sides2 {t1 t2 : TE} {p1 p2 : Ln} (h1 : EvU t1 σ H [.int p1.1, .int p1.2]) (h2 : EvU t2 σ H [.int p2.1, .int p2.2]) : Er (tLst (tCons t1 (tCons t2 tNil))) σ H (RLPH [p1, p2]) := fun H1 e Q q =>
  h1 H1 e _ fun x H2 hx e2 hx2 => h2 H2 (e.trans e2) _ fun y H3 hy e3 hy3 => ⟨by show 2 ≤ sizeLine; decide, fun p hp => by
    have en : Ex H3 (upd H3 p (.lst [.ref x, .ref y])) := Ex.new hp
    exact q _ _ ((e2.trans e3).trans en) ⟨p, rfl, fresh_back (e2.trans e3) hp, [x, y], by rw [upd_same]; rfl, .cons ((e3.trans en) _ _ hx2) (.cons (en _ _ hy3) .nil)⟩⟩
theorem er_catP {ta tb : TE} {t : Addr} {ss ss' : List Ln} (ha : Ev ta σ H (.ref t)) (ht : LPH H t ss) (hb : Er tb σ H (RLPH ss')) (hl : ss.length + ss'.length ≤ 10000) : Er (tOp rCat ta tb) σ H (RLPH (ss ++ ss')) := fun H1 e Q q =>
  ha H1 e _ fun H2 e2 => hb H2 (e.trans e2) _ fun v H3 e3 ⟨b, hv, hb0, bs, hb1, hb2⟩ => by
    subst hv
    obtain ⟨as, h1, h2⟩ := ht
    refine ⟨t, b, _, _, rfl, rfl, ((e.trans e2).trans e3) _ _ h1, hb1, ?_, fun z hz => ?_⟩
    · rw [List.length_map, List.length_map, h2.length, hb2.length]
      exact Nat.le_trans hl (by decide)
    · have gz := Ex.new (o := .lst (as.map V.ref ++ bs.map V.ref)) hz
      exact q _ _ ((e2.trans e3).trans gz) ⟨z, rfl, fresh_back (e2.trans e3) hz, as ++ bs, by rw [upd_same, List.map_append], paired_append (paired_mono h2 fun _ _ w => (((e.trans e2).trans e3).trans gz) _ _ w) (paired_mono hb2 fun _ _ w => gz _ _ w)⟩
theorem take_fold {α β : Type} {g : β → α → β} {f : β} {l : List α} {i : Nat} {x : α} (h : l[i]? = some x) : (l.take (i + 1)).foldl g f = g ((l.take i).foldl g f) x := by
  rw [List.take_add_one, h, List.foldl_append]
  rfl
end
end AT

/-! ## form_by, and the law's own -/
namespace AT
open PySem PySem.Spec PyProof.Rows L2 Evl
theorem idx_lt {ls : List Ln} {p : Ln} (h : p ∈ ls) : ls.idxOf p < ls.length := List.idxOf_lt_length_iff.mpr h
theorem triPairs_at (t : Tr) {j : Nat} (hj : j < 3) : (triPairs t)[j]? = some (lnD (sidesOf t) j, lnD (sidesOf t) ((j + 1) % 3)) := by
  rcases (show j = 0 ∨ j = 1 ∨ j = 2 by omega) with rfl | rfl | rfl <;> rfl
theorem fold_pairs (ls : List Ln) (f : Nat → Nat → Int) (t : Tr) : ((triPairs t).take 3).foldl (pairStep ls) f = triStep ls f t := rfl
theorem pair_in {ls : List Ln} {f : Nat → Nat → Int} {p q : Ln} (h : (decide (p ∈ ls) && decide (q ∈ ls)) = true) :
    pairStep ls f (p, q) = setF (setF f (ls.idxOf p) (ls.idxOf q) (f (ls.idxOf p) (ls.idxOf q) + 1)) (ls.idxOf q) (ls.idxOf p) (setF f (ls.idxOf p) (ls.idxOf q) (f (ls.idxOf p) (ls.idxOf q) + 1) (ls.idxOf q) (ls.idxOf p) - 1) := by
  rw [Bool.and_eq_true, decide_eq_true_eq, decide_eq_true_eq] at h
  exact if_pos h
theorem pair_out {ls : List Ln} {f : Nat → Nat → Int} {p q : Ln} (h : (decide (p ∈ ls) && decide (q ∈ ls)) = false) : pairStep ls f (p, q) = f := if_neg fun z => by
  simp [z.1, z.2] at h
section
variable {P : Program} {w : World} {K : Frag} {mg : Str → Option Value} {base : Heap} {k : Nat}
theorem ok_form_by (T : Txt K mg) (G_triangles : FnOk P w K mg base CX0 k T.f_triangles T.d_triangles ["corners", "lines"] (sp_triangles K)) : FnOk P w K mg base CX0 (k + 1) T.f_form_by T.d_form_by ["corners", "lines"] (sp_form_by K) := by
  refine T.F_form_by.ok sc_form_by (fun vs H Q E h => ?_) (fun cdv A outer s H vs Q E hr h => ?_)
  · obtain ⟨n, a, ls, rfl, _⟩ := h
    rfl
  · obtain ⟨n, a, ls, rfl, hL, hn, hl1, hl2, q⟩ := h
    refine ⟨_, (pss_cons (ps_setLc (i := 2) (own := [("line", 12)]) rfl sc_form_by.nd rfl rfl (sw_true rfl rfl rfl (by decide +kernel)) (pi_listK K (pv 1)) (blkOk_by (own := [("line", 12)]) (N := N_form_by) (sc := defScope s_form_by) (by decide +kernel)) (fun _ _ _ _ _ => (pg_name (i := 12) sc_form_by.nd rfl (.inl rfl))) (fun _ _ _ _ _ => pts_nil) (fun _ _ _ _ _ => (pe_lc (own := [("other", 9)]) rfl sc_form_by.nd (pi_listK K (pv 1)) (blkOk_by (own := [("other", 9)]) (N := N_form_by) (sc := relS { kind := .function, names := [(PySem.Str.ofString ".0", PySem.NameKind.local), (PySem.Str.ofString "line", PySem.NameKind.local), (PySem.Str.ofString "lines", PySem.NameKind.free)], isGenerator := false, isCoroutine := false, more := [] } (defScope s_form_by)) (by decide +kernel)) (fun _ _ _ _ _ => (pg_name (i := 9) sc_form_by.nd rfl (.inl rfl))) (fun _ _ _ _ _ => pts_nil) (fun _ _ _ _ _ => pe_int))))
      (pss_cons (ps_for PassesOwn.never rfl (pi_listK K (pe_call G_triangles hr rfl T.m_triangles T.F_triangles.kp T.b_triangles .nil pass0 (pa_cons (pv 0) (pa_cons (pv 1) pa_nil)))) (pg_tupK K (n := 3) rfl (pgs_cons (pg_name (i := 3) sc_form_by.nd rfl (.inl rfl)) (pgs_cons (pg_name (i := 4) sc_form_by.nd rfl (.inl rfl)) (pgs_cons (pg_name (i := 5) sc_form_by.nd rfl (.inl rfl)) pgs_nil))))
        (pss_cons (ps_set (i := 6) sc_form_by.nd rfl (.inl rfl) (pe_lst (pa_cons (pe_tup (pa_cons (pv 3) (pa_cons (pv 4) pa_nil))) (pa_cons (pe_tup (pa_cons (pv 4) (pa_cons (pv 5) pa_nil))) (pa_cons (pe_tup (pa_cons (pv 3) (pa_cons (pv 5) pa_nil))) pa_nil)))))
      (pss_one (ps_for PassesOwn.never rfl (pi_range1 rfl T.b_range (pa_cons pe_int pa_nil)) (pg_name (i := 7) sc_form_by.nd rfl (.inl rfl))
        (pss_cons (ps_set (i := 8) sc_form_by.nd rfl (.inl rfl) (pe_ix (ixL K) (pv 6) (pv 7) (fun _ _ => rfl)))
      (pss_cons (ps_set (i := 9) sc_form_by.nd rfl (.inl rfl) (pe_ix (ixL K) (pv 6) (pe_op op_modN (pe_op op_add (pv 7) pe_int) pe_int) (fun _ _ => rfl)))
      (pss_one (ps_if (PW.pt (pw_and (pt_cmpR (inDK K hr.units65) (pv 8) (pv 1) rfl) (pw_and1 (pt_cmpR (inDK K hr.units65) (pv 9) (pv 1) rfl))))
        (pss_cons (ps_set (i := 10) sc_form_by.nd rfl (.inl rfl) (bmK K PySem.F.plainAttrs_list PySem.F.slot_list_index PySem.F.type_list_index (mt_indexDK K hr.units65) (pv 1) (pa_cons (pv 8) pa_nil)))
      (pss_cons (ps_set (i := 11) sc_form_by.nd rfl (.inl rfl) (bmK K PySem.F.plainAttrs_list PySem.F.slot_list_index PySem.F.type_list_index (mt_indexDK K hr.units65) (pv 1) (pa_cons (pv 9) pa_nil)))
      (pss_cons (ps_asg (pe_op op_add (pe_ix (ixL K) (pe_ix (ixL K) (pv 2) (pv 10) (fun _ _ => rfl)) (pv 11) (fun _ _ => rfl)) pe_int) (pg_sub (pe_ix (ixL K) (pv 2) (pv 10) (fun _ _ => rfl)) (pv 11) set_list))
      (pss_one (ps_asg (pe_op op_sub (pe_ix (ixL K) (pe_ix (ixL K) (pv 2) (pv 11) (fun _ _ => rfl)) (pv 10) (fun _ _ => rfl)) pe_int) (pg_sub (pe_ix (ixL K) (pv 2) (pv 11) (fun _ _ => rfl)) (pv 10) set_list))))))
        pss_nil))))))))
      (pss_one (ps_ret (pv 2))))), ?_⟩
    refine qr_asg (er_zeros (ev_var rfl) hL hl2 (fun _ => rfl) (fun _ _ => rfl) fun x H1 e1 => ev_var rfl) fun v H1 e1 ⟨p, hv, hO⟩ => ?_
    subst hv
    refine q_forE (er_tris (ea_cons (ev_var (v := .int (n : Int)) rfl) (ea_cons (ev_var (v := .ref a) rfl) ea_nil)) (hL.mono e1) hn) fun v H2 e2 ⟨t, hv, hT⟩ => ?_
    subst hv
    obtain ⟨as, ht1, ht2⟩ := id hT.2
    have hlen := ht2.length
    refine ⟨t, as.map V.ref, rfl, sq_of ht1, fun i σ' H' => ∃ x3 x4 x5 x6 x7 x8 x9 x10 x11, σ' = [some (.int (n : Int)), some (.ref a), some (.ref p), x3, x4, x5, x6, x7, x8, x9, x10, x11, none] ∧ Ex H H' ∧ Kp ls.length H2 H' ∧ OLLI H H' p (Fm ls.length (((tris n ls).take i).foldl (triStep ls) fun _ _ => 0)), ?_, ?_, ?_, ?_⟩
    · exact ⟨_, _, _, _, _, _, _, _, _, rfl, e1.trans e2, Kp.of (Ex.refl _), hO.mono e2⟩
    · rintro i σ' H' _ ⟨x3, x4, x5, x6, x7, x8, x9, x10, x11, rfl, eH, kH, _⟩
      exact sq_of (kp_lst hl1 kH ht1)
    · rintro i x σ' H' hx ⟨x3, x4, x5, x6, x7, x8, x9, x10, x11, rfl, eH, kH, hF⟩
      rw [List.getElem?_map] at hx
      cases hy : as[i]? with
      | none => rw [hy] at hx; cases hx
      | some y =>
        rw [hy] at hx
        cases hx
        obtain ⟨tr, htr, hy2⟩ := paired_getL ht2 hy
        refine ⟨y, trV tr, rfl, st_of (kp_tup kH hy2), rfl, .int (tr.1 : Int), _, rfl, .int (tr.2.1 : Int), _, rfl, .int (tr.2.2 : Int), _, rfl, rfl, ?_⟩
        refine qr_asg (er_sides3 (p1 := lnD (sidesOf tr) 0) (p2 := lnD (sidesOf tr) 1) (p3 := lnD (sidesOf tr) 2) (eu_tup (ea_cons (ev_var rfl) (ea_cons (ev_var rfl) ea_nil)) (by show 2 ≤ 100000; decide)) (eu_tup (ea_cons (ev_var rfl) (ea_cons (ev_var rfl) ea_nil)) (by show 2 ≤ 100000; decide)) (eu_tup (ea_cons (ev_var rfl) (ea_cons (ev_var rfl) ea_nil)) (by show 2 ≤ 100000; decide))) fun v H3 e3 ⟨m, hv, hm0, hm⟩ => ?_
        subst hv
        have hm : LPH H3 m (sidesOf tr) := hm
        have hst := take_fold (g := triStep ls) (f := fun _ _ => (0 : Int)) htr
        generalize ((tris n ls).take i).foldl (triStep ls) (fun _ _ => 0) = f at hF hst
        refine s_forR1 (n := 3) (ea_cons ev_c ea_nil) (by decide) (fun j σ' H' => ∃ x7 x8 x9 x10 x11, σ' = [some (.int (n : Int)), some (.ref a), some (.ref p), some (.int (tr.1 : Int)), some (.int (tr.2.1 : Int)), some (.int (tr.2.2 : Int)), some (.ref m), x7, x8, x9, x10, x11, none] ∧ Ex H H' ∧ Kp ls.length H3 H' ∧ OLLI H H' p (Fm ls.length (((triPairs tr).take j).foldl (pairStep ls) f)))
          (fun H4 e4 => ⟨_, _, _, _, _, rfl, (eH.trans e3).trans e4, Kp.of e4, (hF.mono e3).mono e4⟩) (fun j σ' H4 hj hP => ?_) (fun σ' H4 hP => ?_)
        · obtain ⟨x7, x8, x9, x10, x11, rfl, e4, k4, hF4⟩ := hP
          have hj3 : j < 3 := by omega
          have hm4 : LP K H4 m (sidesOf tr) := (hm.kp hl1 k4).lp
          have hL4 := hL.mono e4
          obtain ⟨y1, hy1, hp1⟩ := hm4.gets (i := j) (by show j < 3; exact hj3)
          obtain ⟨y2, hy2', hp2⟩ := hm4.gets (i := (j + 1) % 3) (by show (j + 1) % 3 < 3; omega)
          have hsp := take_fold (g := pairStep ls) (f := f) (triPairs_at tr hj3)
          generalize ((triPairs tr).take j).foldl (pairStep ls) f = fj at hF4 hsp
          generalize lnD (sidesOf tr) j = p1 at *
          generalize lnD (sidesOf tr) ((j + 1) % 3) = p2 at *
          refine q_asg (ev_op (ev_var (v := .ref m) rfl) (ev_var (v := .int (j : Int)) rfl) hy1) fun H5 e5 => ?_
          refine q_asg (ev_op (ev_var (v := .ref m) rfl) (ev_cast (w := .int (((j + 1) % 3 : Nat) : Int)) (ev_mod (i := (j : Int) + 1) (j := 3) (ev_op (ev_var (v := .int (j : Int)) rfl) ev_c rv_I0) ev_c (by decide)) (by congr 1)) (fun G g => hy2' G (e5.trans g))) fun H6 e6 => ?_
          have e56 := e5.trans e6
          have q1 := hp1.mono e56
          have q2 := hp2.mono e56
          have hL6 := hL4.mono e56
          refine s_when (et_and (et_test (ev_op (ev_var (v := .ref y1) rfl) (ev_var (v := .ref a) rfl) (rv_inP q1 hL6))) fun _ => et_test (ev_op (ev_var (v := .ref y2) rfl) (ev_var (v := .ref a) rfl) (rv_inP q2 hL6))) (fun hb H7 e7 => ?_) (fun hb H7 e7 => ?_)
          · rw [pair_in hb] at hsp
            rw [Bool.and_eq_true, decide_eq_true_eq, decide_eq_true_eq] at hb
            obtain ⟨m1, m2⟩ := hb
            have i1 := idx_lt m1
            have i2 := idx_lt m2
            refine q_asg (ev_indexP (ev_var (v := .ref a) rfl) (ev_var (v := .ref y1) rfl) (hL6.mono e7) (q1.mono e7) m1) fun H8 e8 => ?_
            refine q_asg (ev_indexP (ev_var (v := .ref a) rfl) (ev_var (v := .ref y2) rfl) (hL6.mono (e7.trans e8)) (q2.mono (e7.trans e8)) m2) fun H9 e9 => ?_
            have e49 := (e56.trans e7).trans (e8.trans e9)
            have hF9 := hF4.mono e49
            generalize ls.idxOf p1 = i' at *
            generalize ls.idxOf p2 = j' at *
            refine q_setFmK hF9 (e4.trans e49) i1 i2 (ev_op (ev_fm (ev_var rfl) (ev_var rfl) (ev_var rfl) hF9.lli i1 i2) ev_c rv_I0) (ev_var rfl) (ev_var rfl) (ev_var rfl) fun G1 g1 k1 hG1 => ?_
            refine s_setFmK hG1 g1 i2 i1 (ev_op (ev_fm (ev_var rfl) (ev_var rfl) (ev_var rfl) hG1.lli i2 i1) ev_c rv_I0) (ev_var rfl) (ev_var rfl) (ev_var rfl) fun G2 g2 k2 hG2 => ?_
            exact ⟨_, _, _, _, _, rfl, g2, ((k4.trans (Kp.of e49)).trans k1).trans k2, hsp ▸ hG2⟩
          · rw [pair_out hb] at hsp
            exact ⟨_, _, _, _, _, rfl, e4.trans (e56.trans e7), k4.trans (Kp.of (e56.trans e7)), hsp ▸ hF4.mono (e56.trans e7)⟩
        · obtain ⟨x7, x8, x9, x10, x11, rfl, e4, k4, hF4⟩ := hP
          exact ⟨_, _, _, _, _, _, _, _, _, rfl, e4, (kH.trans (Kp.of e3)).trans k4, hst ▸ hF4⟩
    · rintro σ' H' ⟨x3, x4, x5, x6, x7, x8, x9, x10, x11, rfl, eH, kH, hF⟩
      rw [List.length_map, hlen, List.take_length] at hF
      exact s_ret (ev_var rfl) fun H3 e3 => q H3 p (eH.trans e3) (hF.mono e3)
end
end AT

/-! ## all cuts of a ring, gone through by Lean's kernel -/
namespace AT
open PySem PySem.Spec PyProof.Rows L2 Evl
abbrev NL := Nat × Nat
def toLn (p : NL) : Ln := ((p.1 : Int), (p.2 : Int))
def ofLn (p : Ln) : NL := (p.1.toNat, p.2.toNat)
def crN (p q : NL) : Bool := (Nat.blt p.1 q.1 && (Nat.blt q.1 p.2 && Nat.blt p.2 q.2)) || (Nat.blt q.1 p.1 && (Nat.blt p.1 q.2 && Nat.blt q.2 p.2))
def ltN (p q : NL) : Prop := p.1 < q.1 ∨ (p.1 = q.1 ∧ p.2 < q.2)
def linesN (c : Nat) : List NL := (List.range c).flatMap fun a => ((List.range c).filter fun b => Nat.blt (a + 1) b && Nat.blt (b - a) (c - 1)).map fun b => (a, b)
/-- P of all lists of k of L, none crossing, acc ahead of them -/
def chk (P : List NL → Bool) : List NL → List NL → Nat → Bool
  | _, acc, 0 => P acc.reverse
  | [], _, _ + 1 => true
  | p :: r, acc, k + 1 => chk P r acc (k + 1) && (!(acc.all fun q => !crN q p) || chk P r (p :: acc) k)
theorem chk_all {P : List NL → Bool} : ∀ {L acc : List NL} {k : Nat} {s : List NL}, chk P L acc k = true → s.Sublist L → s.length = k → (∀ q, q ∈ acc → ∀ p, p ∈ s → crN q p = false) → s.Pairwise (fun q p => crN q p = false) → P (acc.reverse ++ s) = true
  | L, acc, 0, s, h, hs, hk, _, _ => by
    have : s = [] := List.length_eq_zero_iff.mp hk
    subst this
    rw [List.append_nil]
    cases L <;> exact h
  | [], acc, k + 1, s, h, hs, hk, _, _ => by
    have : s = [] := List.sublist_nil.mp hs
    subst this
    cases hk
  | p :: r, acc, k + 1, s, h, hs, hk, ha, hp => by
    have h : (chk P r acc (k + 1) && (!(acc.all fun q => !crN q p) || chk P r (p :: acc) k)) = true := h
    rw [Bool.and_eq_true] at h
    cases hs with
    | cons _ hs => exact chk_all h.1 hs hk ha hp
    | cons_cons _ hs =>
      rename_i s'
      have hall : (acc.all fun q => !crN q p) = true := List.all_eq_true.mpr fun q hq => by rw [ha q hq p List.mem_cons_self]; rfl
      have h2 := h.2
      rw [hall] at h2
      have h2 : chk P r (p :: acc) k = true := h2
      rw [List.pairwise_cons] at hp
      have := chk_all (s := s') h2 hs (by simpa using hk) (fun q hq u hu => by
        rcases List.mem_cons.mp hq with rfl | hq
        · exact hp.1 u hu
        · exact ha q hq u (List.mem_cons_of_mem _ hu)) hp.2
      rw [List.reverse_cons, List.append_assoc] at this
      exact this
theorem ltN_irr {p : NL} : ¬ ltN p p := fun h => by rcases h with h | ⟨_, h⟩ <;> omega
theorem ltN_tr {p q r : NL} (h1 : ltN p q) (h2 : ltN q r) : ltN p r := by
  unfold ltN at *
  omega
theorem sub_sorted : ∀ {L s : List NL}, L.Pairwise ltN → s.Pairwise ltN → (∀ p, p ∈ s → p ∈ L) → s.Sublist L
  | [], s, _, _, h => by
    cases s with
    | nil => exact .slnil
    | cons p s => exact absurd (h p List.mem_cons_self) (by simp)
  | p :: r, s, hL, hs, h => by
    rw [List.pairwise_cons] at hL
    cases s with
    | nil => exact List.nil_sublist _
    | cons q s =>
      rw [List.pairwise_cons] at hs
      by_cases e : q = p
      · subst e
        refine .cons_cons _ (sub_sorted hL.2 hs.2 fun u hu => ?_)
        rcases List.mem_cons.mp (h u (List.mem_cons_of_mem _ hu)) with e | hm
        · subst e
          exact absurd (hs.1 _ hu) ltN_irr
        · exact hm
      · refine .cons _ (sub_sorted hL.2 (List.pairwise_cons.mpr hs) fun u hu => ?_)
        have hq : q ∈ r := (List.mem_cons.mp (h q List.mem_cons_self)).resolve_left e
        rcases List.mem_cons.mp hu with rfl | hu
        · exact hq
        · refine (List.mem_cons.mp (h u (List.mem_cons_of_mem _ hu))).resolve_left fun z => ?_
          subst z
          exact ltN_irr (ltN_tr (hL.1 q hq) (hs.1 _ hu))
theorem linesN_mem {c a b : Nat} : (a, b) ∈ linesN c ↔ a < c ∧ b < c ∧ a + 1 < b ∧ b - a < c - 1 := by
  unfold linesN
  simp only [List.mem_flatMap, List.mem_range, List.mem_map, List.mem_filter, Bool.and_eq_true, Nat.blt_eq, Prod.mk.injEq]
  constructor
  · rintro ⟨x, hx, y, ⟨hy, h1, h2⟩, rfl, rfl⟩
    exact ⟨hx, hy, h1, h2⟩
  · rintro ⟨h1, h2, h3, h4⟩
    exact ⟨a, h1, b, ⟨h2, h3, h4⟩, rfl, rfl⟩
instance (p q : NL) : Decidable (ltN p q) := by unfold ltN; infer_instance
theorem linesN_sorted {c : Nat} (h1 : 4 ≤ c) (h2 : c ≤ 9) : (linesN c).Pairwise ltN := by
  rcases (show c = 4 ∨ c = 5 ∨ c = 6 ∨ c = 7 ∨ c = 8 ∨ c = 9 by omega) with rfl | rfl | rfl | rfl | rfl | rfl <;> decide +kernel
theorem ltP_iff (p q : Ln) : ltP p q = true ↔ p.1 < q.1 ∨ (p.1 = q.1 ∧ p.2 < q.2) := by
  show (if p.1 = q.1 then decide (p.2 < q.2) else decide (p.1 < q.1)) = true ↔ _
  split <;> rw [decide_eq_true_eq] <;> omega
theorem lineB_iff (c : Int) (p : Ln) : lineB c p = true ↔ 0 ≤ p.1 ∧ p.2 < c ∧ p.1 + 1 < p.2 ∧ p.2 - p.1 < c - 1 := by
  unfold lineB
  simp only [Bool.and_eq_true, decide_eq_true_eq]
theorem lineB_of {c : Int} {p : Ln} (h : lineB c p = true) : toLn (ofLn p) = p := by
  rw [lineB_iff] at h
  unfold toLn ofLn
  obtain ⟨a, b⟩ := p
  simp only [Prod.mk.injEq] at *
  omega
theorem crossB_nat (p q : NL) : crossB (toLn p) (toLn q) = crN p q := by
  unfold crossB crN toLn
  rw [Bool.eq_iff_iff]
  simp only [Bool.or_eq_true, Bool.and_eq_true, decide_eq_true_eq, Nat.blt_eq]
  omega
theorem lnD_get {ls : List Ln} {i : Nat} (h : i < ls.length) : lnD ls i = ls[i] := by
  unfold lnD
  rw [List.getD_eq_getElem?_getD, List.getElem?_eq_getElem h]
  rfl
/-- the lines of a cut, as pairs of counts -/
theorem IsCut.nat {c : Int} {ls : List Ln} (h : IsCut c ls) : ∃ (n : Nat) (s : List NL), c = (n : Int) ∧ 4 ≤ n ∧ n ≤ 9 ∧ ls = s.map toLn ∧ s.length = n - 3 ∧ s.Sublist (linesN n) ∧ s.Pairwise (fun q p => crN q p = false) ∧ s.Pairwise ltN := by
  obtain ⟨h1, h2, h3, h4⟩ := h
  have hline : ∀ p, p ∈ ls → lineB c p = true := fun p hp => by
    obtain ⟨i, hi, rfl⟩ := List.mem_iff_getElem.mp hp
    have := (h4 i hi).1
    rw [lnD_get hi] at this
    exact this
  have hmap : (ls.map ofLn).map toLn = ls := by
    rw [List.map_map]
    have : ls.map (toLn ∘ ofLn) = ls.map id := List.map_congr_left fun p hp => lineB_of (hline p hp)
    rw [this, List.map_id]
  have hof : ∀ (i : Nat) (hi : i < ls.length), toLn (ofLn (ls[i])) = ls[i] := fun i hi => lineB_of (hline _ (List.getElem_mem hi))
  have hltP : ∀ (d i : Nat), i + d + 1 < ls.length → ltP (lnD ls i) (lnD ls (i + d + 1)) = true := fun d => by
    induction d with
    | zero =>
      intro i hi
      exact (h4 (i + 0 + 1) hi).2.1 (by omega)
    | succ d ih =>
      intro i hi
      have a1 := ih i (by omega)
      have a2 := (h4 (i + (d + 1) + 1) hi).2.1 (by omega)
      have e : i + (d + 1) + 1 - 1 = i + d + 1 := by omega
      rw [e] at a2
      rw [ltP_iff] at *
      omega
  have hpair : (ls.map ofLn).Pairwise ltN := by
    rw [List.pairwise_iff_getElem]
    intro i j hi hj hij
    simp only [List.length_map] at hi hj
    have := hltP (j - i - 1) i (by omega)
    have e : i + (j - i - 1) + 1 = j := by omega
    rw [e, lnD_get hi, lnD_get hj, ltP_iff] at this
    have e1 := (lineB_iff c _).mp (hline _ (List.getElem_mem hi))
    have e2 := (lineB_iff c _).mp (hline _ (List.getElem_mem hj))
    rw [List.getElem_map, List.getElem_map]
    show (ls[i].1.toNat < ls[j].1.toNat ∨ (ls[i].1.toNat = ls[j].1.toNat ∧ ls[i].2.toNat < ls[j].2.toNat))
    omega
  refine ⟨c.toNat, ls.map ofLn, by omega, by omega, by omega, hmap.symm, by rw [List.length_map]; omega, sub_sorted (linesN_sorted (by omega) (by omega)) hpair fun p hp => ?_, ?_, hpair⟩
  · obtain ⟨u, hu, rfl⟩ := List.mem_map.mp hp
    have := (lineB_iff c _).mp (hline u hu)
    unfold ofLn
    rw [linesN_mem]
    omega
  · rw [List.pairwise_iff_getElem]
    intro i j hi hj hij
    simp only [List.length_map] at hi hj
    have := (h4 j hj).2.2 i hij
    rw [lnD_get hi, lnD_get hj, ← hof i hi, ← hof j hj, crossB_nat] at this
    rw [List.getElem_map, List.getElem_map]
    exact this
theorem cut_chk {c : Int} {ls : List Ln} {P : Nat → List NL → Bool} (h : IsCut c ls) (hP : ∀ n, 4 ≤ n → n ≤ 9 → chk (P n) (linesN n) [] (n - 3) = true) : ∃ (n : Nat) (s : List NL), c = (n : Int) ∧ 4 ≤ n ∧ n ≤ 9 ∧ ls = s.map toLn ∧ s.length = n - 3 ∧ (∀ p, p ∈ s → p.1 < p.2 ∧ p.2 < n) ∧ P n s = true := by
  obtain ⟨n, s, e1, e2, e3, e4, e5, e6, e7, e8⟩ := h.nat
  refine ⟨n, s, e1, e2, e3, e4, e5, fun p hp => ?_, ?_⟩
  · have := linesN_mem.mp (e6.subset hp)
    omega
  · have := chk_all (hP n e2 e3) e6 e5 (fun q hq => absurd hq (by simp)) e7
    exact this
/-! ### each line has a triangle -/
def sideN (n : Nat) (s : List NL) (i j : Nat) : Bool := Nat.beq j (i + 1) || (Nat.beq (j + 1) (i + n) || s.any fun p => Nat.beq p.1 i && Nat.beq p.2 j)
/-- m is the third corner of a triangle of the line p -/
def thirdN (n : Nat) (s : List NL) (p : NL) (m : Nat) : Bool :=
  (Nat.blt m p.1 && (sideN n s m p.1 && sideN n s m p.2)) || ((Nat.blt p.1 m && (Nat.blt m p.2 && (sideN n s p.1 m && sideN n s m p.2))) || (Nat.blt p.2 m && (sideN n s p.1 m && sideN n s p.2 m)))
def hasTri (n : Nat) (s : List NL) : Bool := s.all fun p => (List.range n).any fun m => thirdN n s p m
theorem hasTri_all (n : Nat) (h1 : 4 ≤ n) (h2 : n ≤ 9) : chk (hasTri n) (linesN n) [] (n - 3) = true := by
  rcases (show n = 4 ∨ n = 5 ∨ n = 6 ∨ n = 7 ∨ n = 8 ∨ n = 9 by omega) with rfl | rfl | rfl | rfl | rfl | rfl <;> decide +kernel
theorem sideN_eq {n : Nat} {s : List NL} {i j : Nat} : sideN n s i j = sideB (n : Int) (s.map toLn) (i : Int) (j : Int) := by
  unfold sideN sideB
  rw [Bool.eq_iff_iff]
  simp only [Bool.or_eq_true, Bool.and_eq_true, decide_eq_true_eq, Nat.beq_eq, List.any_eq_true]
  have e : ((∃ x, x ∈ s ∧ x.1 = i ∧ x.2 = j) ↔ ((i : Int), (j : Int)) ∈ s.map toLn) := by
    constructor
    · rintro ⟨x, hx, rfl, rfl⟩
      exact List.mem_map.mpr ⟨x, hx, rfl⟩
    · intro h
      obtain ⟨x, hx, e⟩ := List.mem_map.mp h
      unfold toLn at e
      simp only [Prod.mk.injEq] at e
      exact ⟨x, hx, by omega, by omega⟩
  have a1 : j = i + 1 ↔ (j : Int) - (i : Int) = 1 := by omega
  have a2 : j + 1 = i + n ↔ (j : Int) - (i : Int) = (n : Int) - 1 := by omega
  rw [e, a1, a2]
end AT

/-! ## the third corners of the triangles of a line -/
namespace AT
open PySem PySem.Spec PyProof.Rows L2 Evl
def hasT (t : Tr) (i : Int) : Bool := decide (i = t.1) || (decide (i = t.2.1) || decide (i = t.2.2))
def leftOf (n : Nat) (ls : List Ln) (p : Ln) : List Int := ((tris n ls).filter fun t => hasT t p.1 && hasT t p.2).map fun t => (t.1 : Int) + t.2.1 + t.2.2 - p.1 - p.2
theorem inV_three (d : Int) (t : Tr) : inV (.int d) (trV t) = hasT t d := by
  simp only [trV, inV, List.any_cons, List.any_nil, eqV, Bool.or_false, hasT]
  rw [Bool.eq_iff_iff]
  simp only [Bool.or_eq_true, beq_iff_eq, decide_eq_true_eq]
  omega
theorem tris_mem {n : Nat} {ls : List Ln} {a b c : Nat} : (a, b, c) ∈ tris n ls ↔ a < b ∧ b < c ∧ c < n ∧ triB n ls a b c = true := by
  unfold tris tri3 tri2 tri1
  simp only [List.mem_flatMap, List.mem_range, List.mem_range'_1, List.mem_map, List.mem_filter, Prod.mk.injEq]
  constructor
  · rintro ⟨a', h1, b', h2, c', ⟨h3, h4⟩, rfl, rfl, rfl⟩
    exact ⟨by omega, by omega, by omega, h4⟩
  · rintro ⟨h1, h2, h3, h4⟩
    exact ⟨a, by omega, b, by omega, c, ⟨by omega, h4⟩, rfl, rfl, rfl⟩
theorem sideN_of {n : Nat} {s : List NL} {p : NL} (h : p ∈ s) : sideB (n : Int) (s.map toLn) (p.1 : Int) (p.2 : Int) = true := by
  unfold sideB
  have : ((p.1 : Int), (p.2 : Int)) ∈ s.map toLn := List.mem_map.mpr ⟨p, h, rfl⟩
  simp [this]
theorem third_tri {n : Nat} {s : List NL} {p : NL} {m : Nat} (hp : p ∈ s) (h12 : p.1 < p.2) (h2 : p.2 < n) (hm : m < n) (h : thirdN n s p m = true) : ∃ t, t ∈ tris n (s.map toLn) ∧ hasT t p.1 = true ∧ hasT t p.2 = true := by
  unfold thirdN at h
  simp only [Bool.or_eq_true, Bool.and_eq_true, Nat.blt_eq, sideN_eq] at h
  have hs := sideN_of (n := n) hp
  rcases h with ⟨h3, h4, h5⟩ | ⟨h3, h4, h5, h6⟩ | ⟨h3, h4, h5⟩
  · exact ⟨(m, p.1, p.2), tris_mem.mpr ⟨h3, h12, h2, by unfold triB; rw [h4, hs, h5]; rfl⟩, by simp [hasT], by simp [hasT]⟩
  · exact ⟨(p.1, m, p.2), tris_mem.mpr ⟨h3, h4, h2, by unfold triB; rw [h5, hs, h6]; rfl⟩, by simp [hasT], by simp [hasT]⟩
  · exact ⟨(p.1, p.2, m), tris_mem.mpr ⟨h12, h3, hm, by unfold triB; rw [h4, hs, h5]; rfl⟩, by simp [hasT], by simp [hasT]⟩
theorem left_ne {n : Nat} {ls : List Ln} {p : Ln} (h : IsCut (n : Int) ls) (hp : p ∈ ls) : leftOf n ls p ≠ [] := by
  obtain ⟨n', s, e1, e2, e3, e4, e5, e6, e7⟩ := cut_chk (P := hasTri) h hasTri_all
  have : n' = n := by omega
  subst this
  subst e4
  obtain ⟨u, hu, rfl⟩ := List.mem_map.mp hp
  unfold hasTri at e7
  obtain ⟨m, hm, h3⟩ := List.any_eq_true.mp (List.all_eq_true.mp e7 u hu)
  obtain ⟨t, ht, h4, h5⟩ := third_tri hu (e6 u hu).1 (e6 u hu).2 (List.mem_range.mp hm) h3
  intro z
  unfold leftOf at z
  rw [List.map_eq_nil_iff] at z
  have : t ∈ ([] : List Tr) := z ▸ List.mem_filter.mpr ⟨ht, by
    show (hasT t (u.1 : Int) && hasT t (u.2 : Int)) = true
    rw [h4, h5]; rfl⟩
  cases this
/-! ### the least of ints -/
def minI (xs : List Int) : Int := 0 - maxL (xs.map fun x => 0 - x)
theorem minI_eq {xs : List Int} {m : Int} (h1 : m ∈ xs) (h2 : ∀ y, y ∈ xs → m ≤ y) : m = minI xs := by
  have := maxL_eq (xs := xs.map fun x => 0 - x) (m := 0 - m) (List.mem_map.mpr ⟨m, h1, rfl⟩) fun y hy => by
    obtain ⟨z, hz, rfl⟩ := List.mem_map.mp hy
    have := h2 z hz
    omega
  unfold minI
  omega
/-- the cut turned at a line -/
def turnC (n : Nat) (ls : List Ln) (p : Ln) : List Ln := sortP ((ls.filter fun q => !decide (q = p)) ++ [(minI (leftOf n ls p), maxL (leftOf n ls p))])
section
variable {K : Frag} {σ : St} {H H0 : Hp} {te tl tv tmn tmx : TE} {t : TT} {a p : Addr} {xs : List Int}
theorem ev_minN (h : Ev te σ H (.ref a)) (hL : LI K H a xs) (hn : xs ≠ []) : Ev (tCB (rMin K) (tCons te tNil)) σ H (.int (minI xs)) := fun H1 e Q q =>
  h H1 e _ fun H2 e2 => ⟨a, xs, rfl, hL.mono (e.trans e2), List.length_pos_iff.mpr hn, fun m hm hle => by
    rw [minI_eq hm hle]
    exact q H2 e2⟩
theorem given_filter {α : Type} (d : α) (l : List α) (g : α → Bool) (v : α → V) : given l.length (fun j => g (l.getD j d)) (fun j => v (l.getD j d)) = (l.filter g).map v := by
  unfold given
  conv => rhs; rw [list_eq_range d l]
  rw [List.filter_map, List.map_map]
  rfl
/-- over a list that the reading makes -/
theorem el_lcE {R0 : R3} {j n : Nat} {vs : List Nat} (f : Nat → Bool) (v : Nat → V) (h : Er tl σ H R0) (hz : n ≤ 40000) (hw : ∀ x, wipe ((wipe σ vs).set j (some x)) vs = wipe σ vs)
    (hs : ∀ H1 H2 v0, Ex H H1 → Ex H1 H2 → R0 H1 H2 v0 → ∃ a xs, v0 = .ref a ∧ SqL K H2 a xs ∧ xs.length = n ∧ ∀ (i : Nat) x H3, xs[i]? = some x → Ex H2 H3 → EvT t ((wipe σ vs).set j (some x)) H3 (f i) ∧ (f i = true → Ev te ((wipe σ vs).set j (some x)) H3 (v i))) :
    EvL (tLc (iList K tl) (gName j) t te vs) σ H (given n f v) := fun H0 e Q q => h H0 e _ fun v0 H1 e1 r => by
  obtain ⟨a, xs, ev, hx, hn, hi⟩ := hs H0 H1 v0 e e1 r
  subst ev
  subst hn
  exact ⟨a, rfl, ⟨xs, hx⟩, fun Dl hD =>
    lc_list (xs := xs) (Cw H1 f v Dl) ⟨hD, Ex.new hD, upd_same⟩ (fun i H' _ p => ex_l p.2.1 hx) (fun i x H' hj p => ⟨hw x, cw_turn p (by have := (List.getElem?_eq_some_iff.mp hj).1; omega) ((hi i x H1 hj (Ex.refl _)).1) (fun hf => (hi i x H1 hj (Ex.refl _)).2 hf)⟩)
      (fun H' p => q Dl H' (fresh_back e1 p.1) (e1.trans p.2.1) p.2.2)⟩
/-- [one for one in lines if one != line] + [(min, max)] -/
theorem er_newcut {j : Nat} {vs : List Nat} {ls : List Ln} {lx : Addr} {u : Ln} {mn mx : Int} (h : Ev tl σ H (.ref a)) (hL : LP K H a ls) (hl : ls.length ≤ 1000) (hw : ∀ x, wipe ((wipe σ vs).set j (some x)) vs = wipe σ vs) (hj : ∀ x, ((wipe σ vs).set j (some x))[j]? = some (some x))
    (hv : ∀ x H1, Ev tv ((wipe σ vs).set j (some x)) H1 (.ref lx)) (hu : PT K H lx u) (h1 : Ev tmn σ H (.int mn)) (h2 : Ev tmx σ H (.int mx)) :
    Er (tOp rCat (tLc (iList K tl) (gName j) (tTest (tOp (rNeD K) (tVar j) tv)) (tVar j) vs) (tLst (tCons (tTup (tCons tmn (tCons tmx tNil))) tNil))) σ H (fun _ H2 v => ∃ b, v = .ref b ∧ LP K H2 b ((ls.filter fun q => !decide (q = u)) ++ [(mn, mx)])) := fun H1 e Q q => by
  obtain ⟨as, hA, hP⟩ := id hL
  have hlen := hP.length
  obtain ⟨z1, z2⟩ := zip_of hP.length
  have hz := paired_zip hP
  generalize as.zip ls = zs at *
  subst z1; subst z2
  have hll := hl
  rw [List.length_map] at hll
  let d : Addr × Ln := (0, (0, 0))
  have hx : ∀ (i : Nat) (x : V), ((zs.map (·.1)).map V.ref)[i]? = some x → zs[i]? = some (zs.getD i d) ∧ x = .ref (zs.getD i d).1 := fun i x hx => by
    rw [List.map_map, List.getElem?_map] at hx
    cases hy : zs[i]? with
    | none => rw [hy] at hx; cases hx
    | some y =>
      rw [hy] at hx
      cases hx
      rw [List.getD_eq_getElem?_getD, hy]
      exact ⟨rfl, rfl⟩
  have hlc := el_lcL (K := K) (te := tVar j) (t := tTest (tOp (rNeD K) (tVar j) tv)) (fun i => !decide ((zs.getD i d).2 = u)) (fun i => .ref (zs.getD i d).1) h hA (by rw [List.length_map, List.length_map]; omega) hw
    (fun i x G1 g1 hxi => by
      obtain ⟨c1, rfl⟩ := hx i x hxi
      exact et_test (ev_op (ev_var (hj _)) (hv _ G1) (rv_neP ((hz _ (List.mem_of_getElem? c1)).mono g1) (hu.mono g1))))
    (fun i x G1 g1 hxi _ => by
      obtain ⟨c1, rfl⟩ := hx i x hxi
      exact ev_var (hj _))
  rw [List.length_map, List.length_map, given_filter d zs (fun z => !decide (z.2 = u)) (fun z => .ref z.1)] at hlc
  refine hlc H1 e _ fun b1 H2 hb1 e2 hb1' => ?_
  refine h1 H2 (e.trans e2) _ fun H3 e3 => h2 H3 ((e.trans e2).trans e3) _ fun H4 e4 => ?_
  refine ⟨by show 2 ≤ sizeLine; decide, fun y hy => ?_⟩
  have ey : Ex H4 (upd H4 y (.tup [.int mn, .int mx])) := Ex.new hy
  refine ⟨by show 1 ≤ sizeLine; decide, fun b2 hb2 => ?_⟩
  have eb : Ex (upd H4 y (.tup [.int mn, .int mx])) (upd (upd H4 y (.tup [.int mn, .int mx])) b2 (.lst [.ref y])) := Ex.new hb2
  have e25 := ((e3.trans e4).trans ey).trans eb
  refine ⟨b1, b2, _, _, rfl, rfl, e25 _ _ hb1', upd_same, ?_, fun b3 hb3 => ?_⟩
  · rw [List.length_map]
    have := List.length_filter_le (fun z : Addr × Ln => !decide (z.2 = u)) zs
    refine Nat.le_trans (m := 2000) ?_ (by decide)
    show _ + 1 ≤ 2000
    omega
  · have eb3 := Ex.new (o := .lst ((zs.filter fun z => !decide (z.2 = u)).map (fun z => V.ref z.1) ++ [.ref y])) hb3
    refine q _ _ ((e2.trans e25).trans eb3) ⟨b3, rfl, (zs.filter fun z => !decide (z.2 = u)).map (·.1) ++ [y], ?_, ?_⟩
    · refine sq_of ?_
      rw [upd_same, List.map_append, List.map_map]
      rfl
    · have hf : (zs.map (·.2)).filter (fun q => !decide (q = u)) = (zs.filter fun z => !decide (z.2 = u)).map (·.2) := by rw [List.filter_map]; rfl
      rw [hf]
      refine paired_append (paired_of_zip fun z hz' => ((hz z (List.mem_filter.mp hz').1).mono (e.trans ((e2.trans e25).trans eb3)))) (.cons (st_of ((eb.trans eb3) _ _ upd_same)) .nil)
end
end AT

/-! ## form_of, cut_turned -/
namespace AT
open PySem PySem.Spec PyProof.Rows L2 Evl
def sp_form_of (K : Frag) (CC : Addr) : Sp := fun vs H Q E => ∃ (c : Int) (a : Addr) (ls : List Ln), vs = [.int c, .ref a] ∧ LP K H a ls ∧ ls.length ≤ 100 ∧ (¬ IsCut c ls → ∀ H', Ex H H' → E (.ref CC) none H') ∧
  (∀ n : Nat, c = n → IsCut n ls → ∀ H' p, Ex H H' → OLLI H H' p (Fm ls.length (formF n ls)) → Q (.ref p) H')
def sp_cut_turned (K : Frag) (CC CB : Addr) : Sp := fun vs H Q E => ∃ (c : Int) (a x : Addr) (ls : List Ln) (u : Ln), vs = [.int c, .ref a, .ref x] ∧ LP K H a ls ∧ ls.length ≤ 100 ∧ PT K H x u ∧ (¬ IsCut c ls → ∀ H', Ex H H' → E (.ref CC) none H') ∧
  (IsCut c ls → u ∉ ls → ∀ H', Ex H H' → E (.ref CB) none H') ∧ (∀ n : Nat, c = n → IsCut n ls → u ∈ ls → ∀ H' p, Ex H H' → OLP K H H' p (turnC n ls u) → Q (.ref p) H')
theorem IsCut.nat_len {n : Nat} {ls : List Ln} (h : IsCut (n : Int) ls) : n ≤ 9 ∧ 4 ≤ n ∧ ls.length = n - 3 ∧ 1 ≤ ls.length ∧ ls.length ≤ 6 := by
  obtain ⟨h1, h2, h3, _⟩ := h
  omega
section
variable {K : Frag} {σ : St} {H H0 H1 : Hp} {te : TE} {ta : TA} {E : XK} {a x : Addr} {n : Nat} {ls : List Ln} {u : Ln}
theorem er_formby (h : EvA ta σ H [.int (n : Int), .ref a]) (hL : LP K H a ls) (hC : IsCut n ls) : Er (tCall (sp_form_by K) [] E ta) σ H (RM (Fm ls.length (formF n ls))) :=
  er_call mon_RM h fun H1 e1 Q q E => ⟨n, a, ls, rfl, hL.mono e1, by have := hC.nat_len; omega, by have := hC.nat_len; omega, by have := hC.nat_len; omega, fun H' p e hO => q _ H' e ⟨p, rfl, hO⟩⟩
theorem er_formof {CC : Addr} (h : EvA ta σ H [.int (n : Int), .ref a]) (hL : LP K H a ls) (hC : IsCut n ls) : Er (tCall (sp_form_of K CC) [] E ta) σ H (RM (Fm ls.length (formF n ls))) :=
  er_call mon_RM h fun H1 e1 Q q E => ⟨n, a, ls, rfl, hL.mono e1, by have := hC.nat_len; omega, fun z => absurd hC z, fun m e hC' H' p e2 hO => by
    have : m = n := by omega
    subst this
    exact q _ H' e2 ⟨p, rfl, hO⟩⟩
theorem er_cutt {CC CB : Addr} (h : EvA ta σ H [.int (n : Int), .ref a, .ref x]) (hL : LP K H a ls) (hC : IsCut n ls) (hx : PT K H x u) (hu : u ∈ ls) : Er (tCall (sp_cut_turned K CC CB) [] E ta) σ H (RLP K (turnC n ls u)) :=
  er_call mon_RLP h fun H1 e1 Q q E => ⟨n, a, x, ls, u, rfl, hL.mono e1, by have := hC.nat_len; omega, hx.mono e1, fun z => absurd hC z, fun _ z => absurd hu z, fun m e hC' _ H' p e2 hO => by
    have : m = n := by omega
    subst this
    exact q _ H' e2 ⟨p, rfl, hO⟩⟩
/-- what is not l stays -/
def Sx (l : Addr) (H H1 : Hp) : Prop := ∀ (y : Addr) (o : HO), y ≠ l → H y = some o → H1 y = some o
theorem Sx.of {l : Addr} {H H1 : Hp} (e : Ex H H1) : Sx l H H1 := fun y o _ h => e y o h
theorem Sx.trans {l : Addr} {H H1 H2 : Hp} (a : Sx l H H1) (b : Sx l H1 H2) : Sx l H H2 := fun y o n h => b y o n (a y o n h)
theorem Sx.upd {l : Addr} {H : Hp} {o : HO} : Sx l H (upd H l o) := fun y o n h => by rw [upd_ne n]; exact h
end
section
variable {P : Program} {w : World} {K : Frag} {mg : Str → Option Value} {base : Heap} {k : Nat}
theorem ok_form_of (T : Txt K mg) (G_must_cut : FnOk P w K mg base (L2.CX P w) k T.f_must_cut T.d_must_cut ["corners", "lines"] (sp_must_cut K T.c_NoCut)) (G_form_by : FnOk P w K mg base CX0 k T.f_form_by T.d_form_by ["corners", "lines"] (sp_form_by K)) :
    FnOk P w K mg base (L2.CX P w) (k + 1) T.f_form_of T.d_form_of ["corners", "lines"] (sp_form_of K T.c_NoCut) := by
  refine T.F_form_of.okX sc_form_of (fun vs H Q E h => ?_) (fun cdv A outer s H vs Q E hr h => ?_)
  · obtain ⟨c, a, ls, rfl, _⟩ := h
    rfl
  · obtain ⟨c, a, ls, rfl, hL, hl, q1, q2⟩ := h
    refine ⟨_, (pss_cons (ps_expr (pe_call G_must_cut hr rfl T.m_must_cut T.F_must_cut.kp T.b_must_cut .nil (passes_call (takes_of rfl rfl rfl rfl) (fun _ _ _ _ h => h)) (pa_cons (pv 0) (pa_cons (pv 1) pa_nil))))
      (pss_one (ps_ret (pe_call G_form_by hr rfl T.m_form_by T.F_form_by.kp T.b_form_by .nil pass0 (pa_cons (pv 0) (pa_cons (pv 1) pa_nil)))))), ?_⟩
    refine ⟨.int c, rfl, .ref a, rfl, c, a, ls, rfl, hL, hl, fun H1 e1 => ⟨fun hC => ?_, fun z => q1 z H1 e1⟩⟩
    obtain ⟨n, rfl⟩ : ∃ n : Nat, c = n := ⟨c.toNat, by have := hC.1; omega⟩
    dsimp only
    refine sr_ret (er_formby (ea_cons (ev_var rfl) (ea_cons (ev_var rfl) ea_nil)) (hL.mono e1) hC) fun v H2 e2 ⟨p, hv, hO⟩ => ?_
    subst hv
    exact q2 n rfl hC H2 p (e1.trans e2) (hO.back e1)
theorem ok_cut_turned (T : Txt K mg) (G_must_cut : FnOk P w K mg base (L2.CX P w) k T.f_must_cut T.d_must_cut ["corners", "lines"] (sp_must_cut K T.c_NoCut)) (G_triangles : FnOk P w K mg base CX0 k T.f_triangles T.d_triangles ["corners", "lines"] (sp_triangles K)) :
    FnOk P w K mg base (L2.CX P w) (k + 1) T.f_cut_turned T.d_cut_turned ["corners", "lines", "line"] (sp_cut_turned K T.c_NoCut T.c_NoBox) := by
  refine T.F_cut_turned.okX sc_cut_turned (fun vs H Q E h => ?_) (fun cdv A outer s H vs Q E hr h => ?_)
  · obtain ⟨c, a, x, ls, u, rfl, _⟩ := h
    rfl
  · obtain ⟨c, a, x, ls, u, rfl, hL, hl, hx, q1, q2, q3⟩ := h
    refine ⟨_, (pss_cons (ps_expr (pe_call G_must_cut hr rfl T.m_must_cut T.F_must_cut.kp T.b_must_cut .nil (passes_call (takes_of rfl rfl rfl rfl) (fun _ _ _ _ h => h)) (pa_cons (pv 0) (pa_cons (pv 1) pa_nil))))
      (pss_cons (ps_if (pt_cmpR (ninDK K hr.units65) (pv 2) (pv 1) rfl)
        (pss_one (ps_raise rfl (takes_of rfl rfl rfl rfl) (pmk_own PySem.F.excBase_ValueError T.x_NoBox.xn T.x_NoBox.g T.x_NoBox.kp (raises_own T.x_NoBox.bs T.x_NoBox.ty) rfl)))
        pss_nil)
      (pss_cons (ps_set (i := 3) sc_cut_turned.nd rfl (.inl rfl) (pe_lst pa_nil))
      (pss_cons (ps_for (passes_of rfl) rfl (pi_listK K (pe_call G_triangles hr rfl T.m_triangles T.F_triangles.kp T.b_triangles .nil pass0 (pa_cons (pv 0) (pa_cons (pv 1) pa_nil)))) (pg_name (i := 4) sc_cut_turned.nd rfl (.inl rfl))
        (pss_one (ps_if (PW.pt (pw_and (pt_cmpR (inK K) (pe_ix (ixT K) (pv 2) pe_int (fun _ _ => rfl)) (pv 4) rfl) (pw_and1 (pt_cmpR (inK K) (pe_ix (ixT K) (pv 2) pe_int (fun _ _ => rfl)) (pv 4) rfl))))
        (pss_one (ps_expr (bmK K PySem.F.plainAttrs_list PySem.F.slot_list_append PySem.F.type_list_append mt_append (pv 3) (pa_cons (pe_op op_sub (pe_op op_sub (pe_callB (sumTK K rfl) rfl T.b_sum (by decide +kernel) (pa_cons (pv 4) pa_nil)) (pe_ix (ixT K) (pv 2) pe_int (fun _ _ => rfl))) (pe_ix (ixT K) (pv 2) pe_int (fun _ _ => rfl))) pa_nil))))
        pss_nil)))
      (pss_one (ps_ret (pe_callB (sortedDK K hr.units) rfl T.b_sorted (by decide +kernel) (pa_cons (pe_op op_cat (pe_lc (own := [("one", 5)]) rfl sc_cut_turned.nd (pi_listK K (pv 1)) (blkOk_by (own := [("one", 5)]) (N := N_cut_turned) (sc := defScope s_cut_turned) (by decide +kernel)) (fun _ _ _ _ _ => (pg_name (i := 5) sc_cut_turned.nd rfl (.inl rfl))) (fun _ _ _ _ _ => (pts_one (pt_cmpR (neDK K hr.units) (pv 5) (pv 2) (nomark _)))) (fun _ _ _ _ _ => (pv 5))) (pe_lst (pa_cons (pe_tup (pa_cons (pe_callB (minK K rfl) rfl T.b_min (by decide +kernel) (pa_cons (pv 3) pa_nil)) (pa_cons (pe_callB (maxK K rfl) rfl T.b_max (by decide +kernel) (pa_cons (pv 3) pa_nil)) pa_nil))) pa_nil))) pa_nil)))))))), ?_⟩
    refine ⟨.int c, rfl, .ref a, rfl, c, a, ls, rfl, hL, hl, fun H1 e1 => ⟨fun hC => ?_, fun z => q1 z H1 e1⟩⟩
    dsimp only
    refine q_when (et_test (ev_op (ev_var (v := .ref x) rfl) (ev_var (v := .ref a) rfl) (rv_ninP (hx.mono e1) (hL.mono e1)))) (fun hb H2 e2 => ?_) (fun hb H2 e2 => ?_)
    · rw [Bool.not_eq_true', decide_eq_false_iff_not] at hb
      exact q2 hC hb H2 (e1.trans e2)
    · rw [Bool.not_eq_false', decide_eq_true_eq] at hb
      obtain ⟨n, rfl⟩ : ∃ n : Nat, c = n := ⟨c.toNat, by have := hC.1; omega⟩
      have hn := hC.nat_len
      have e02 := e1.trans e2
      refine q_asgL (xs := []) (el_lst ea_nil (by simp)) fun l H3 hl3 e3 hl3' => ?_
      have e03 := e02.trans e3
      refine q_forE (er_tris (ea_cons (ev_var (v := .int (n : Int)) rfl) (ea_cons (ev_var (v := .ref a) rfl) ea_nil)) (hL.mono e03) (by omega)) fun v H4 e4 ⟨t, hv, hT⟩ => ?_
      subst hv
      obtain ⟨as, ht1, ht2⟩ := id hT.2
      have hlen := ht2.length
      have htl : l ≠ t := ne_of_none hl3' hT.1
      let W : List Tr → List Int := fun ts => (ts.filter fun t => hasT t u.1 && hasT t u.2).map fun t => (t.1 : Int) + t.2.1 + t.2.2 - u.1 - u.2
      have hWlen : ∀ i, (W ((tris n ls).take i)).length ≤ 10000 := fun i => by
        show (((((tris n ls).take i).filter _).map _).length ≤ 10000)
        rw [List.length_map]
        refine Nat.le_trans (List.length_filter_le _ _) ?_
        rw [List.length_take]
        have h1 := tri3_len (ls := ls) (n := n) (m := n) (by omega)
        have h2 : n * (n * n) ≤ 9 * (9 * 9) := Nat.mul_le_mul (by omega) (Nat.mul_le_mul (by omega) (by omega))
        show min i (tri3 n ls n).length ≤ 10000
        omega
      refine ⟨t, as.map V.ref, rfl, sq_of ht1, fun i σ' H' => ∃ x4, σ' = [some (.int (n : Int)), some (.ref a), some (.ref x), some (.ref l), x4, none] ∧ Ex H H' ∧ Sx l H4 H' ∧ H' l = some (.lst ((W ((tris n ls).take i)).map V.int)), ?_, ?_, ?_, ?_⟩
      · exact ⟨_, rfl, e03.trans e4, Sx.of (Ex.refl _), e4 _ _ hl3'⟩
      · rintro i σ' H' _ ⟨x4, rfl, eH, kH, _⟩
        exact sq_of (kH _ _ htl.symm ht1)
      · rintro i y σ' H' hy ⟨x4, rfl, eH, kH, hl'⟩
        rw [List.getElem?_map] at hy
        cases hz : as[i]? with
        | none => rw [hz] at hy; cases hy
        | some z =>
          rw [hz] at hy
          cases hy
          obtain ⟨tr, htr, hz2⟩ := paired_getL ht2 hz
          have hzt : H' z = some (.tup (trV tr)) := kH _ _ (fun e => by
            subst e
            have h1 := e4 _ _ hl3'
            rw [hz2] at h1
            cases h1) hz2
          have hst : W ((tris n ls).take (i + 1)) = W ((tris n ls).take i) ++ if (hasT tr u.1 && hasT tr u.2) = true then [(tr.1 : Int) + tr.2.1 + tr.2.2 - u.1 - u.2] else [] := by
            show (((tris n ls).take (i + 1)).filter _).map _ = _
            rw [List.take_add_one, htr, List.filter_append, List.map_append]
            congr 1
            show ([tr].filter _).map _ = _
            rw [List.filter_cons]
            split <;> rfl
          have hx' := hx.mono eH
          have hzs : SqT K H' z (trV tr) := st_of hzt
          refine s_when (b := hasT tr u.1 && hasT tr u.2) (et_is (et_and (et_test (ev_op (ev_p1 (ev_var (v := .ref x) rfl) ev_c hx') (ev_var (v := .ref z) rfl) (rv_isT hzs rfl rfl))) fun _ => et_test (ev_op (ev_p2 (ev_var (v := .ref x) rfl) ev_c hx') (ev_var (v := .ref z) rfl) (rv_isT hzs rfl rfl))) (by rw [inV_three, inV_three])) (fun hb H5 e5 => ?_) (fun hb H5 e5 => ?_)
          · rw [if_pos hb] at hst
            have hx5 := hx'.mono e5
            refine s_app (xs := (W ((tris n ls).take i)).map V.int) (v := .int ((tr.1 : Int) + tr.2.1 + tr.2.2 - u.1 - u.2)) (e5 _ _ hl') (ev_var rfl) (ev_cast (ev_op (ev_op (ev_sumT (ns := [(tr.1 : Int), (tr.2.1 : Int), (tr.2.2 : Int)]) (ev_var (v := .ref z) rfl) (ex_t e5 hzs)) (ev_p1 (ev_var (v := .ref x) rfl) ev_c hx5) rv_I0) (ev_p2 (ev_var (v := .ref x) rfl) ev_c hx5) rv_I0) ?_) (by rw [List.length_map]; have := hWlen i; omega) fun H6 e6 => ⟨_, rfl, Ex.mut ((eH.trans e5).trans e6) (fresh_back e02 hl3), (kH.trans (Sx.of (e5.trans e6))).trans Sx.upd, ?_⟩
            · congr 1
              simp only [List.sum_cons, List.sum_nil]
              omega
            · rw [upd_same, hst, List.map_append]
              rfl
          · rw [if_neg (by rw [hb]; decide), List.append_nil] at hst
            refine ⟨_, rfl, eH.trans e5, kH.trans (Sx.of e5), ?_⟩
            rw [hst]
            exact e5 _ _ hl'
      · rintro σ' H' ⟨x4, rfl, eH, kH, hl'⟩
        rw [List.length_map, hlen, List.take_length] at hl'
        have hLI : LI K H' l (leftOf n ls u) := sq_of hl'
        have hne := left_ne hC hb
        refine sr_ret (er_sortedP (er_newcut (ev_var (v := .ref a) rfl) (hL.mono eH) (by omega) (fun _ => rfl) (fun _ => rfl) (fun _ _ => ev_var rfl) (hx.mono eH) (ev_minN (ev_var rfl) hLI hne) (ev_maxN (ev_var rfl) hLI hne)) (fun G1 G2 v hv => hv) ?_) fun v H5 e5 ⟨p, hv, hO⟩ => ?_
        · have := List.length_filter_le (fun q => !decide (q = u)) ls
          rw [List.length_append]
          show _ + 1 ≤ 10000
          omega
        · subst hv
          exact q3 n rfl hC hb H5 p (eH.trans e5) (hO.back eH)
end
end AT

/-! ## the drawn cut: a stack of spans, each split at a drawn corner -/
namespace AT
open PySem PySem.Spec PyProof.Rows L2 Evl
def mrun (A : Nat → Nat → Nat) (c : Nat) : Nat → List NL → List NL → List NL
  | 0, _, ls => ls
  | _ + 1, [], ls => ls
  | f + 1, p :: st, ls => if 1 < p.2 - p.1 then mrun A c f ((A p.1 p.2, p.2) :: (p.1, A p.1 p.2) :: st) (if p.2 - p.1 < c - 1 then ls ++ [p] else ls) else mrun A c f st ls
def chkM (P : List NL → Bool) (c : Nat) : Nat → List NL → List NL → Bool
  | 0, _, ls => P ls
  | _ + 1, [], ls => P ls
  | f + 1, p :: st, ls => if Nat.blt 1 (p.2 - p.1) then (List.range (p.2 - p.1 - 1)).all fun d => chkM P c f ((p.1 + 1 + d, p.2) :: (p.1, p.1 + 1 + d) :: st) (if Nat.blt (p.2 - p.1) (c - 1) then ls ++ [p] else ls) else chkM P c f st ls
theorem chkM_run {P : List NL → Bool} {A : Nat → Nat → Nat} {c : Nat} (hA : ∀ i j, 1 < j - i → i < A i j ∧ A i j < j) : ∀ {f : Nat} {st ls : List NL}, chkM P c f st ls = true → P (mrun A c f st ls) = true
  | 0, _, _, h => h
  | _ + 1, [], _, h => h
  | f + 1, p :: st, ls, h => by
    unfold chkM at h
    unfold mrun
    simp only [Nat.blt_eq] at h
    by_cases h1 : 1 < p.2 - p.1
    · rw [if_pos h1] at h ⊢
      obtain ⟨a1, a2⟩ := hA p.1 p.2 h1
      have := List.all_eq_true.mp h (A p.1 p.2 - p.1 - 1) (List.mem_range.mpr (by omega))
      have e : p.1 + 1 + (A p.1 p.2 - p.1 - 1) = A p.1 p.2 := by omega
      rw [e] at this
      exact chkM_run hA this
    · rw [if_neg h1] at h ⊢
      exact chkM_run hA h
def ltNb (p q : NL) : Bool := Nat.blt p.1 q.1 || (Nat.beq p.1 q.1 && Nat.blt p.2 q.2)
theorem ltNb_iff {p q : NL} : ltNb p q = true ↔ ltN p q := by
  unfold ltNb ltN
  simp only [Bool.or_eq_true, Bool.and_eq_true, Nat.blt_eq, Nat.beq_eq]
def insN (p : NL) : List NL → List NL
  | [] => [p]
  | q :: r => if ltNb p q then p :: q :: r else q :: insN p r
def isortN : List NL → List NL
  | [] => []
  | p :: r => insN p (isortN r)
theorem insN_perm (p : NL) : ∀ l : List NL, (insN p l).Perm (p :: l)
  | [] => .refl _
  | q :: r => by
    unfold insN
    split
    · exact .refl _
    · exact ((insN_perm p r).cons q).trans (.swap p q r)
theorem isortN_perm : ∀ l : List NL, (isortN l).Perm l
  | [] => .refl _
  | p :: r => (insN_perm p _).trans ((isortN_perm r).cons p)
/-- a list of lines is a cut, looked at by the kernel -/
def sortedN : List NL → Bool
  | p :: q :: r => ltNb p q && sortedN (q :: r)
  | _ => true
def apartN : List NL → Bool
  | [] => true
  | p :: r => r.all (fun q => !crN p q) && apartN r
def cutN (c : Nat) (s : List NL) : Bool := Nat.beq s.length (c - 3) && (s.all (fun p => Nat.blt (p.1 + 1) p.2 && (Nat.blt p.2 c && Nat.blt (p.2 - p.1) (c - 1))) && (sortedN s && apartN s))
theorem sortedN_pw : ∀ {s : List NL}, sortedN s = true → s.Pairwise ltN
  | [], _ => .nil
  | [p], _ => List.pairwise_singleton _ _
  | p :: q :: r, h => by
    have h : (ltNb p q && sortedN (q :: r)) = true := h
    rw [Bool.and_eq_true, ltNb_iff] at h
    have ih := sortedN_pw h.2
    refine List.pairwise_cons.mpr ⟨fun u hu => ?_, ih⟩
    rcases List.mem_cons.mp hu with rfl | hu
    · exact h.1
    · exact ltN_tr h.1 ((List.pairwise_cons.mp ih).1 u hu)
theorem apartN_pw : ∀ {s : List NL}, apartN s = true → s.Pairwise (fun q p => crN q p = false)
  | [], _ => .nil
  | p :: r, h => by
    have h : (r.all (fun q => !crN p q) && apartN r) = true := h
    rw [Bool.and_eq_true] at h
    refine List.pairwise_cons.mpr ⟨fun u hu => ?_, apartN_pw h.2⟩
    have := List.all_eq_true.mp h.1 u hu
    simpa using this
theorem ltP_toLn {p q : NL} : ltP (toLn p) (toLn q) = true ↔ ltN p q := by
  rw [ltP_iff]
  unfold toLn ltN
  omega
theorem cutN_is {c : Nat} {s : List NL} (h1 : 4 ≤ c) (h2 : c ≤ 9) (h : cutN c s = true) : IsCut (c : Int) (s.map toLn) := by
  unfold cutN at h
  simp only [Bool.and_eq_true, Nat.beq_eq] at h
  obtain ⟨hl, ha, hs, hx⟩ := h
  have hs := sortedN_pw hs
  have hx := apartN_pw hx
  refine ⟨by omega, by omega, by rw [List.length_map]; omega, fun k hk => ?_⟩
  rw [List.length_map] at hk
  have hget : ∀ i, (hi : i < s.length) → lnD (s.map toLn) i = toLn s[i] := fun i hi => by
    rw [lnD_get (by rw [List.length_map]; exact hi), List.getElem_map]
  refine ⟨?_, fun h0 => ?_, fun j hj => ?_⟩
  · rw [hget k hk, lineB_iff]
    have := List.all_eq_true.mp ha s[k] (List.getElem_mem hk)
    simp only [Bool.and_eq_true, Nat.blt_eq] at this
    unfold toLn
    dsimp only
    omega
  · rw [hget k hk, hget (k - 1) (by omega), ltP_toLn]
    exact List.pairwise_iff_getElem.mp hs (k - 1) k (by omega) hk (by omega)
  · rw [hget k hk, hget j (by omega), crossB_nat]
    exact List.pairwise_iff_getElem.mp hx j k (by omega) hk hj
theorem leP_of {p q : Ln} (h : ltP p q = true) : leP p q = true := by
  unfold leP
  rw [Bool.not_eq_true', ← Bool.not_eq_true, ltP_iff]
  rw [ltP_iff] at h
  omega
theorem leP_tr (a b c : Ln) : leP a b = true → leP b c = true → leP a c = true := by
  unfold leP
  rw [Bool.not_eq_true', Bool.not_eq_true', Bool.not_eq_true', ← Bool.not_eq_true, ← Bool.not_eq_true, ← Bool.not_eq_true, ltP_iff, ltP_iff, ltP_iff]
  omega
theorem leP_tot (a b : Ln) : (leP a b || leP b a) = true := by
  unfold leP
  rw [Bool.or_eq_true, Bool.not_eq_true', Bool.not_eq_true', ← Bool.not_eq_true, ← Bool.not_eq_true, ltP_iff, ltP_iff]
  omega
theorem leP_anti {a b : Ln} (h1 : leP a b = true) (h2 : leP b a = true) : a = b := by
  unfold leP at h1 h2
  rw [Bool.not_eq_true', ← Bool.not_eq_true, ltP_iff] at h1 h2
  exact Prod.ext (by omega) (by omega)
/-- what sorted makes of lines is known by their set -/
theorem sortP_eq {ls ms : List Ln} (hp : ls.Perm ms) (hs : ms.Pairwise fun p q => leP p q = true) : sortP ls = ms := by
  unfold sortP
  refine List.Perm.eq_of_pairwise (le := fun p q => leP p q = true) (fun a b _ _ h1 h2 => leP_anti h1 h2) ?_ hs ((List.mergeSort_perm ls leP).trans hp)
  exact List.pairwise_mergeSort leP_tr leP_tot ls
theorem sortP_cut {c : Nat} {ls : List NL} (h : cutN c (isortN ls) = true) : sortP (ls.map toLn) = (isortN ls).map toLn := by
  refine sortP_eq ((isortN_perm ls).map toLn).symm ?_
  unfold cutN at h
  simp only [Bool.and_eq_true] at h
  have hs := sortedN_pw h.2.2.1
  rw [List.pairwise_map]
  exact hs.imp fun h => leP_of (ltP_toLn.mpr h)
def drawnOk (c : Nat) (ls : List NL) : Bool := cutN c (isortN ls)
theorem drawn_all (c : Nat) (h1 : 4 ≤ c) (h2 : c ≤ 9) : chkM (drawnOk c) c (2 * c - 3) [(0, c - 1)] [] = true := by
  rcases (show c = 4 ∨ c = 5 ∨ c = 6 ∨ c = 7 ∨ c = 8 ∨ c = 9 by omega) with rfl | rfl | rfl | rfl | rfl | rfl <;> decide +kernel
theorem drawn_cut {A : Nat → Nat → Nat} {c : Nat} (h1 : 4 ≤ c) (h2 : c ≤ 9) (hA : ∀ i j, 1 < j - i → i < A i j ∧ A i j < j) : IsCut (c : Int) (sortP ((mrun A c (2 * c - 3) [(0, c - 1)] []).map toLn)) := by
  have := chkM_run hA (drawn_all c h1 h2)
  rw [sortP_cut this]
  exact cutN_is h1 h2 this
/-- turns left -/
def muS (st : List NL) : Nat := (st.map fun p => 2 * (p.2 - p.1) - 1).sum
end AT

/-! ## the drawn cut, walked -/
namespace AT
open PySem PySem.Spec PyProof.Rows L2 Evl
section
variable {K : Frag} {σ : St} {H H0 H1 : Hp} {te : TE} {a x m l : Addr} {D : Ends} {tz : TS}
theorem LPH.upd {ss : List Ln} {zs : List V} {o : HO} (h : LPH H m ss) (hm : m ≠ l) (hl : H l = some (.lst zs)) : LPH (upd H l o) m ss := by
  obtain ⟨ms, h1, h2⟩ := h
  refine ⟨ms, by rw [upd_ne hm]; exact h1, paired_mono h2 fun y p z => ?_⟩
  rw [upd_ne]
  · exact z
  · intro e
    subst e
    rw [hl] at z
    cases z
theorem LPH.push {ss : List Ln} {p : Ln} (h : LPH H m ss) : ∃ vs : List V, H m = some (.lst vs) ∧ vs.length = ss.length ∧ ∀ H1 x, Ex H H1 → H1 x = some (.tup [.int p.1, .int p.2]) → LPH (L2.upd H1 m (.lst (vs ++ [.ref x]))) m (ss ++ [p]) := by
  obtain ⟨ms, h1, h2⟩ := h
  refine ⟨_, h1, by rw [List.length_map, h2.length], fun H1 x e hx => ⟨ms ++ [x], by rw [upd_same, List.map_append]; rfl, ?_⟩⟩
  have h3 : Paired (fun x (p : Ln) => H1 x = some (.tup [.int p.1, .int p.2])) (ms ++ [x]) (ss ++ [p]) := paired_append (paired_mono h2 fun _ _ z => e _ _ z) (.cons hx .nil)
  refine paired_mono h3 fun y u hy => ?_
  rw [upd_ne]
  · exact hy
  · intro z
    subst z
    rw [e _ _ h1] at hy
    cases hy
theorem ev_lenLPH {ta : TE} {ls : List Ln} (ha : Ev ta σ H (.ref a)) (h : LPH H a ls) : Ev (tCB (rLenS K) (tCons ta tNil)) σ H (.int (ls.length : Int)) := ev_lenLP ha (h.lp (K := K))
theorem er_LP {ls : List Ln} (h : Ev te σ H (.ref a)) (hL : LP K H a ls) : Er te σ H (fun _ G2 v => ∃ b, v = .ref b ∧ LP K G2 b ls) := fun H1 e Q q => h H1 e Q fun H2 e2 => q _ H2 e2 ⟨a, rfl, hL.mono (e.trans e2)⟩
theorem muS_cons {p : NL} {st : List NL} : muS (p :: st) = 2 * (p.2 - p.1) - 1 + muS st := by simp [muS]
theorem muS_len : ∀ {st : List NL}, (∀ p, p ∈ st → p.1 < p.2) → st.length ≤ muS st
  | [], _ => by simp
  | p :: st, h => by
    have h1 := h p List.mem_cons_self
    have h2 := muS_len (st := st) fun q hq => h q (List.mem_cons_of_mem _ hq)
    rw [muS_cons, List.length_cons]
    omega
end
def sp__law_cut (K : Frag) : Sp := fun vs H Q _ => ∃ (a : Addr) (ns : List Int) (k c : Nat), vs = [.ref a, .int (k : Int), .int (c : Int)] ∧ LI K H a ns ∧ k ≤ 1000 ∧ 4 ≤ c ∧ c ≤ 9 ∧ ∀ ls H' p, Ex H H' → IsCut (c : Int) ls → OLP K H H' p ls → Q (.ref p) H'
/-- the corner drawn between i and j -/
def drawnA (ns : List Int) (k i j : Nat) : Nat := (((i : Int) + 1 + cellV ns (k + i) / (1 + (j : Int)) % ((j : Int) - (i : Int) - 1))).toNat
theorem drawnA_in (ns : List Int) (k i j : Nat) (h : 1 < j - i) : i < drawnA ns k i j ∧ drawnA ns k i j < j ∧ ((drawnA ns k i j : Nat) : Int) = (i : Int) + 1 + cellV ns (k + i) / (1 + (j : Int)) % ((j : Int) - (i : Int) - 1) := by
  unfold drawnA
  have h1 := Int.emod_nonneg (cellV ns (k + i) / (1 + (j : Int))) (b := (j : Int) - (i : Int) - 1) (by omega)
  have h2 := Int.emod_lt_of_pos (cellV ns (k + i) / (1 + (j : Int))) (b := (j : Int) - (i : Int) - 1) (by omega)
  omega
section
variable {P : Program} {w : World} {K : Frag} {mg : Str → Option Value} {base : Heap} {k : Nat}
theorem ok__law_cut (T : Txt K mg) (G__law_cell : FnOk P w K mg base CX0 k T.f__law_cell T.d__law_cell ["script", "k"] (sp__law_cell K)) : FnOk P w K mg base CX0 (k + 1) T.f__law_cut T.d__law_cut ["script", "k", "corners"] (sp__law_cut K) := by
  refine T.F__law_cut.ok sc__law_cut (fun vs H Q E h => ?_) (fun cdv A outer s H vs Q E hr h => ?_)
  · obtain ⟨a, ns, k, c, rfl, _⟩ := h
    rfl
  · obtain ⟨a, ns, k, c, rfl, hL, hk, h4, h9, q⟩ := h
    refine ⟨_, (pss_cons (ps_set (i := 3) sc__law_cut.nd rfl (.inl rfl) (pe_lst pa_nil))
      (pss_cons (ps_set (i := 4) sc__law_cut.nd rfl (.inl rfl) (pe_lst (pa_cons (pe_tup (pa_cons pe_int (pa_cons (pe_op op_sub (pv 2) pe_int) pa_nil))) pa_nil)))
      (pss_cons (ps_while PassesOwn.never (pt_cmpR op_gt (pe_callB (lenK K) rfl T.b_len PySem.boot_len (pa_cons (pv 4) pa_nil)) pe_int (nomark _))
        (pss_cons (ps_asg (bm0K K PySem.F.plainAttrs_list PySem.F.slot_list_pop PySem.F.type_list_pop mt_pop (pv 4)) (pg_tupK K (n := 2) rfl (pgs_cons (pg_name (i := 5) sc__law_cut.nd rfl (.inl rfl)) (pgs_cons (pg_name (i := 6) sc__law_cut.nd rfl (.inl rfl)) pgs_nil))))
      (pss_one (ps_if (pt_cmpR op_gt (pe_op op_sub (pv 6) (pv 5)) pe_int (nomark _))
        (pss_cons (ps_set (i := 7) sc__law_cut.nd rfl (.inl rfl) (pe_op op_add (pe_op op_add (pv 5) pe_int) (pe_op op_modN (pe_op op_fdivN (pe_call G__law_cell hr rfl T.m__law_cell T.F__law_cell.kp T.b__law_cell .nil pass0 (pa_cons (pv 0) (pa_cons (pe_op op_add (pv 1) (pv 5)) pa_nil))) (pe_op op_add pe_int (pv 6))) (pe_op op_sub (pe_op op_sub (pv 6) (pv 5)) pe_int))))
      (pss_cons (ps_set (i := 4) sc__law_cut.nd rfl (.inl rfl) (pe_op op_cat (pv 4) (pe_lst (pa_cons (pe_tup (pa_cons (pv 5) (pa_cons (pv 7) pa_nil))) (pa_cons (pe_tup (pa_cons (pv 7) (pa_cons (pv 6) pa_nil))) pa_nil)))))
      (pss_one (ps_if (pt_cmpR op_lt (pe_op op_sub (pv 6) (pv 5)) (pe_op op_sub (pv 2) pe_int) (nomark _))
        (pss_one (ps_expr (bmK K PySem.F.plainAttrs_list PySem.F.slot_list_append PySem.F.type_list_append mt_append (pv 3) (pa_cons (pe_tup (pa_cons (pv 5) (pa_cons (pv 6) pa_nil))) pa_nil))))
        pss_nil))))
        pss_nil))))
      (pss_one (ps_ret (pe_callB (sortedDK K hr.units) rfl T.b_sorted (by decide +kernel) (pa_cons (pv 3) pa_nil))))))), ?_⟩
    have hA : ∀ i j, 1 < j - i → i < drawnA ns k i j ∧ drawnA ns k i j < j := fun i j h => ⟨(drawnA_in ns k i j h).1, (drawnA_in ns k i j h).2.1⟩
    have hF := drawn_cut h4 h9 hA
    refine q_asgL (xs := []) (el_lst ea_nil (by simp)) fun l H1 hl e1 hl1 => ?_
    refine qr_asg (er_sides1 (p1 := toLn (0, c - 1)) (eu_tup (ea_cons (ev_c (v := .int 0)) (ea_cons (ev_cast (ev_op (ev_var (v := .int (c : Int)) rfl) ev_c (rv_I0 (g := fun i j => .int (i - j)))) (w := .int ((c - 1 : Nat) : Int)) (by congr 1; omega)) ea_nil)) (by show 2 ≤ 100000; decide))) fun v H2 e2 ⟨t, hv, ht0, ht⟩ => ?_
    · subst hv
      have e02 := e1.trans e2
      refine q_while (fun m σ' H' => ∃ st ls t x5 x6 x7, m = muS st ∧ σ' = [some (.ref a), some (.int (k : Int)), some (.int (c : Int)), some (.ref l), some (.ref t), x5, x6, x7] ∧ Ex H H' ∧ H t = none ∧ l ≠ t ∧ LPH H' l (ls.map toLn) ∧ LPH H' t (st.map toLn).reverse ∧ (∀ p, p ∈ st → p.1 < p.2 ∧ p.2 < c) ∧ ls.length + muS st ≤ 20 ∧ mrun (drawnA ns k) c (muS st) st ls = mrun (drawnA ns k) c (2 * c - 3) [(0, c - 1)] []) (2 * c - 3)
        ⟨[(0, c - 1)], [], t, _, _, _, by simp [muS]; omega, rfl, e02, fresh_back e1 ht0, ne_of_none hl1 ht0, ⟨[], e2 _ _ hl1, .nil⟩, ht, by simp; omega, by simp [muS]; omega, by
          have : muS [(0, c - 1)] = 2 * c - 3 := by simp [muS]; omega
          rw [this]⟩ (fun m σ' H' hW => ?_)
      obtain ⟨st, ls, t, x5, x6, x7, rfl, rfl, eH, ht0, hlt, hl', ht', hst, hsum, hrun⟩ := hW
      refine ⟨_, et_test (ev_op (ev_lenLPH (ev_var rfl) ht') ev_c rv_I0), fun hb H3 e3 => ?_, fun hb H3 e3 => ?_⟩
      · rw [decide_eq_true_eq, List.length_reverse, List.length_map] at hb
        cases st with
        | nil => exact absurd hb (by simp)
        | cons p st =>
          have hp := hst p List.mem_cons_self
          have hstl := muS_len fun q hq => (hst q hq).1
          rw [muS_cons] at hstl hsum hrun ⊢
          have hl3 := hl'.mono e3
          obtain ⟨ms, hm1, hm2⟩ := ht'.mono e3
          rw [List.map_cons, List.reverse_cons] at hm2
          obtain ⟨ms', y, rfl⟩ : ∃ ms' y, ms = ms' ++ [y] := by
            have hlen := hm2.length
            rw [List.length_append] at hlen
            exact ⟨ms.dropLast, ms.getLast (fun z => by subst z; simp at hlen), (List.dropLast_concat_getLast _).symm⟩
          have hsp : Paired (fun x (p : Ln) => H3 x = some (.tup [.int p.1, .int p.2])) ms' (st.map toLn).reverse ∧ H3 y = some (.tup [.int (toLn p).1, .int (toLn p).2]) := by
            have hd := paired_dropLast hm2
            rw [List.dropLast_concat, List.dropLast_concat] at hd
            obtain ⟨z, hz1, hz2⟩ := paired_getL hm2 (i := ms'.length) (x := y) (by simp)
            have hlen := hd.length
            rw [hlen, List.getElem?_append_right (by omega), Nat.sub_self] at hz1
            cases hz1
            exact ⟨hd, hz2⟩
          have e0 : muS st + 1 ≤ 2 * (p.2 - p.1) - 1 + muS st := by omega
          refine ⟨fun σ2 H2 => ∃ m', m' < 2 * (p.2 - p.1) - 1 + muS st ∧ ∃ st ls t x5 x6 x7, m' = muS st ∧ σ2 = [some (.ref a), some (.int (k : Int)), some (.int (c : Int)), some (.ref l), some (.ref t), x5, x6, x7] ∧ Ex H H2 ∧ H t = none ∧ l ≠ t ∧ LPH H2 l (ls.map toLn) ∧ LPH H2 t (st.map toLn).reverse ∧ (∀ p, p ∈ st → p.1 < p.2 ∧ p.2 < c) ∧ ls.length + muS st ≤ 20 ∧ mrun (drawnA ns k) c (muS st) st ls = mrun (drawnA ns k) c (2 * c - 3) [(0, c - 1)] [], fun _ _ h => h, ?_⟩
          -- one, other = todo.pop()
          have hpop : ∀ (Q' : VK), (∀ H4, H4 = upd H3 t (.lst (ms'.map V.ref)) → Q' (.ref y) H4) → tBM0 K "list" rPop (tVar 4) [some (.ref a), some (.int (k : Int)), some (.int (c : Int)), some (.ref l), some (.ref t), x5, x6, x7] H3 Q' := fun Q' q' => by
            refine ⟨.ref t, rfl, .inl ⟨rfl, _, sq_of hm1⟩, t, _, .ref y, rfl, rfl, hm1, ?_, q' _ ?_⟩
            · rw [List.map_append, List.length_append, List.length_map]
              show (ms'.map V.ref ++ [V.ref y])[ms'.length + 1 - 1]? = _
              rw [Nat.add_sub_cancel, List.getElem?_append_right (by simp)]
              simp
            · rw [List.map_append]
              show upd H3 t (.lst (ms'.map V.ref ++ [V.ref y]).dropLast) = _
              rw [List.dropLast_concat]
          refine hpop _ fun H4 hH4 => ?_
          have eH3 := eH.trans e3
          have eH4 : Ex H H4 := hH4 ▸ Ex.mut eH3 ht0
          have hl4 : LPH H4 l (ls.map toLn) := hH4 ▸ hl3.upd hlt hm1
          have hyt : y ≠ t := fun z => by
            have := hsp.2
            rw [z, hm1] at this
            cases this
          have hy4 : H4 y = some (.tup [.int (toLn p).1, .int (toLn p).2]) := by rw [hH4, upd_ne hyt]; exact hsp.2
          have ht4 : LPH H4 t (st.map toLn).reverse := by
            refine ⟨ms', by rw [hH4, upd_same], paired_mono hsp.1 fun z u hz => ?_⟩
            rw [hH4, upd_ne]
            · exact hz
            · intro e
              rw [e, hm1] at hz
              cases hz
          clear hpop hH4
          refine ⟨y, _, rfl, st_of hy4, rfl, _, _, rfl, _, _, rfl, rfl, ?_⟩
          have htl : (toLn p).1 = (p.1 : Int) := rfl
          have htl2 : (toLn p).2 = (p.2 : Int) := rfl
          rw [htl, htl2]
          refine s_when (et_test (ev_op (ev_op (ev_var (v := .int (p.2 : Int)) rfl) (ev_var (v := .int (p.1 : Int)) rfl) (rv_I0 (g := fun i j => .int (i - j)))) ev_c rv_I0)) (fun hb2 H5 e5 => ?_) (fun hb2 H5 e5 => ?_)
          · rw [decide_eq_true_eq] at hb2
            have hb2 : 1 < p.2 - p.1 := by omega
            obtain ⟨d1, d2, d3⟩ := drawnA_in ns k p.1 p.2 hb2
            have hL5 := hL.mono (eH4.trans e5)
            have hev : Ev (tOp (rI0 fun i j => .int (i + j)) (tOp (rI0 fun i j => .int (i + j)) (tVar 5) (tC (.int 1))) (tOp (rI (fun _ j => j ≠ 0) fun i j => .int (i.fmod j)) (tOp (rI CDivN fun i j => .int (i.fdiv j)) (tCall (sp__law_cell K) [] E0 (tCons (tVar 0) (tCons (tOp (rI0 fun i j => .int (i + j)) (tVar 1) (tVar 5)) tNil))) (tOp (rI0 fun i j => .int (i + j)) (tC (.int 1)) (tVar 6))) (tOp (rI0 fun i j => .int (i - j)) (tOp (rI0 fun i j => .int (i - j)) (tVar 6) (tVar 5)) (tC (.int 1)))))
                [some (.ref a), some (.int (k : Int)), some (.int (c : Int)), some (.ref l), some (.ref t), some (.int (p.1 : Int)), some (.int (p.2 : Int)), x7] H5 (.int ((drawnA ns k p.1 p.2 : Nat) : Int)) := by
              rw [d3]
              have hki : ((k : Int) + (p.1 : Int)) = ((k + p.1 : Nat) : Int) := by omega
              refine ev_op (ev_op (ev_var rfl) ev_c rv_I0) (ev_mod (ev_div (ev_cv (j := k + p.1) hL5 (ea_cons (ev_var rfl) (ea_cons (ev_cast (ev_op (ev_var (v := .int (k : Int)) rfl) (ev_var (v := .int (p.1 : Int)) rfl) (rv_I0 (g := fun i j => .int (i + j)))) (by rw [hki])) ea_nil)) (by omega)) (ev_op ev_c (ev_var rfl) rv_I0) (by omega) (by omega)) (ev_op (ev_op (ev_var rfl) (ev_var rfl) rv_I0) ev_c rv_I0) (by omega)) rv_I0
            refine q_asg hev fun H6 e6 => ?_
            generalize hm : drawnA ns k p.1 p.2 = m at *
            have hl6 := (hl4.mono e5).mono e6
            have hst6 : ((st.map toLn).reverse).length ≤ 100 := by
              rw [List.length_reverse, List.length_map]
              rw [List.length_cons] at hstl
              omega
            refine qr_asg (er_catP (t := t) (ss := (st.map toLn).reverse) (ev_var rfl) ((ht4.mono e5).mono e6) (er_sides2 (p1 := toLn (p.1, m)) (p2 := toLn (m, p.2)) (eu_tup (ea_cons (ev_var rfl) (ea_cons (ev_var rfl) ea_nil)) (by show 2 ≤ 100000; decide)) (eu_tup (ea_cons (ev_var rfl) (ea_cons (ev_var rfl) ea_nil)) (by show 2 ≤ 100000; decide))) (by show _ + 2 ≤ 10000; omega)) fun v H7 e7 ⟨t', hv, ht'0, ht'7⟩ => ?_
            have e1' : (((m, p.2) :: (p.1, m) :: st).map toLn).reverse = (st.map toLn).reverse ++ [toLn (p.1, m), toLn (m, p.2)] := by simp
            rw [← e1'] at ht'7
            · subst hv
              have e57 := (e5.trans e6).trans e7
              have eH7 := eH4.trans e57
              have hl7 := hl6.mono e7
              have hmu : muS ((m, p.2) :: (p.1, m) :: st) = 2 * (p.2 - p.1) - 2 + muS st := by
                rw [muS_cons, muS_cons]
                dsimp only
                omega
              have hstn : ∀ q, q ∈ (m, p.2) :: (p.1, m) :: st → q.1 < q.2 ∧ q.2 < c := fun q hq => by
                rcases List.mem_cons.mp hq with rfl | hq
                · exact ⟨d2, hp.2⟩
                · rcases List.mem_cons.mp hq with rfl | hq
                  · exact ⟨d1, by dsimp only; omega⟩
                  · exact hst q (List.mem_cons_of_mem _ hq)
              have hrn : mrun (drawnA ns k) c (muS ((m, p.2) :: (p.1, m) :: st)) ((m, p.2) :: (p.1, m) :: st) (if p.2 - p.1 < c - 1 then ls ++ [p] else ls) = mrun (drawnA ns k) c (2 * c - 3) [(0, c - 1)] [] := by
                rw [← hrun, hmu]
                have : 2 * (p.2 - p.1) - 1 + muS st = (2 * (p.2 - p.1) - 2 + muS st) + 1 := by omega
                rw [this]
                show _ = (if 1 < p.2 - p.1 then _ else _)
                rw [if_pos hb2, hm]
              have hlt' : l ≠ t' := by
                obtain ⟨ms7, h7, _⟩ := hl6
                exact ne_of_none h7 ht'0
              have ht'H : H t' = none := fresh_back ((eH4.trans e5).trans e6) ht'0
              refine s_when (et_test (ev_op (ev_op (ev_var (v := .int (p.2 : Int)) rfl) (ev_var (v := .int (p.1 : Int)) rfl) (rv_I0 (g := fun i j => .int (i - j)))) (ev_op (ev_var (v := .int (c : Int)) rfl) ev_c (rv_I0 (g := fun i j => .int (i - j)))) rv_I0)) (fun hb3 H8 e8 => ?_) (fun hb3 H8 e8 => ?_)
              · rw [decide_eq_true_eq] at hb3
                rw [if_pos (by omega)] at hrn
                obtain ⟨vs, hv1, hv2, hv3⟩ := (hl7.mono e8).push (p := toLn p)
                refine s_appU hv1 (ev_var rfl) (eu_tup (ea_cons (ev_var (v := .int (p.1 : Int)) rfl) (ea_cons (ev_var (v := .int (p.2 : Int)) rfl) ea_nil)) (by show 2 ≤ 100000; decide)) (by rw [hv2, List.length_map]; omega) fun y9 H9 hy9 e9 hy9' => ?_
                refine ⟨_, by rw [hmu]; omega, _, _, t', _, _, _, rfl, rfl, Ex.mut ((eH7.trans e8).trans e9) hl, ht'H, hlt', ?_, ((ht'7.mono e8).mono e9).upd hlt'.symm (e9 _ _ hv1), hstn, ?_, hrn⟩
                · rw [List.map_append]
                  exact hv3 H9 y9 e9 hy9'
                · rw [hmu, List.length_append]
                  show _ + 1 + _ ≤ 20
                  omega
              · rw [decide_eq_false_iff_not] at hb3
                rw [if_neg (by omega)] at hrn
                refine ⟨_, by rw [hmu]; omega, _, _, t', _, _, _, rfl, rfl, eH7.trans e8, ht'H, hlt', hl7.mono e8, ht'7.mono e8, hstn, ?_, hrn⟩
                rw [hmu]
                omega
          · rw [decide_eq_false_iff_not] at hb2
            refine ⟨muS st, by omega, st, ls, t, _, _, _, rfl, rfl, eH4.trans e5, ht0, hlt, hl4.mono e5, ht4.mono e5, fun q hq => hst q (List.mem_cons_of_mem _ hq), by omega, ?_⟩
            rw [← hrun]
            have : 2 * (p.2 - p.1) - 1 + muS st = muS st + 1 := by omega
            rw [this]
            show _ = (if 1 < p.2 - p.1 then _ else _)
            rw [if_neg (by omega)]
      · rw [decide_eq_false_iff_not, List.length_reverse, List.length_map] at hb
        have : st = [] := List.length_eq_zero_iff.mp (by omega)
        subst this
        have hrun : ls = mrun (drawnA ns k) c (2 * c - 3) [(0, c - 1)] [] := hrun
        rw [← hrun] at hF
        have hl3 := hl'.mono e3
        refine sr_ret (er_sortedP (ls := ls.map toLn) (er_LP (ev_var (v := .ref l) rfl) hl3.lp) (fun G1 G2 v hv => hv) ?_) fun v H5 e5 ⟨p, hv, hO⟩ => ?_
        · rw [List.length_map]
          have : muS ([] : List NL) = 0 := rfl
          omega
        · subst hv
          exact q _ H5 p ((eH.trans e3).trans e5) hF (hO.back (eH.trans e3))
end
end AT

/-! ## the form of a cut, line by line: an arrow from p to q -/
namespace AT
open PySem PySem.Spec PyProof.Rows L2 Evl
def b2i (b : Bool) : Int := if b = true then 1 else 0
theorem b2i_t : b2i true = 1 := rfl
theorem b2i_f : b2i false = 0 := rfl
def eqN (p q : NL) : Bool := Nat.beq p.1 q.1 && Nat.beq p.2 q.2
theorem eqN_iff {p q : NL} : eqN p q = true ↔ p = q := by
  unfold eqN
  simp only [Bool.and_eq_true, Nat.beq_eq]
  exact ⟨fun h => Prod.ext h.1 h.2, fun h => by rw [h]; exact ⟨rfl, rfl⟩⟩
theorem toLn_inj {p q : NL} : toLn p = toLn q ↔ p = q := by
  unfold toLn
  simp only [Prod.mk.injEq]
  constructor
  · rintro ⟨h1, h2⟩
    exact Prod.ext (by omega) (by omega)
  · rintro rfl
    exact ⟨rfl, rfl⟩
def arrN (n : Nat) (s : List NL) (p q : NL) : Bool := (Nat.beq p.2 q.1 && sideN n s p.1 q.2) || ((Nat.beq p.2 q.2 && (Nat.blt q.1 p.1 && sideN n s q.1 p.1)) || (Nat.beq p.1 q.1 && (Nat.blt q.2 p.2 && sideN n s q.2 p.2)))
/-- the sides of a triangle, in the rings' own numbers -/
def pairsN (t : Tr) : List (NL × NL) := [((t.1, t.2.1), (t.2.1, t.2.2)), ((t.2.1, t.2.2), (t.1, t.2.2)), ((t.1, t.2.2), (t.1, t.2.1))]
theorem triPairs_nat (t : Tr) : triPairs t = (pairsN t).map fun z => (toLn z.1, toLn z.2) := rfl
/-- how many of the arrows are from p to q -/
def cntP (l : List (NL × NL)) (p q : NL) : Int := (l.map fun z => b2i (eqN z.1 p && eqN z.2 q)).sum
theorem cntP_cons (z : NL × NL) (l : List (NL × NL)) (p q : NL) : cntP (z :: l) p q = b2i (eqN z.1 p && eqN z.2 q) + cntP l p q := by unfold cntP; rw [List.map_cons, List.sum_cons]
section
variable {s : List NL} (hnd : s.Nodup)
include hnd
theorem idx_toLn {p : NL} {i : Nat} (hi : i < s.length) (hp : p ∈ s) : (s.map toLn).idxOf (toLn p) = i ↔ p = s[i] := by
  have hm : toLn p ∈ s.map toLn := List.mem_map.mpr ⟨p, hp, rfl⟩
  have hl := List.idxOf_lt_length_iff.mpr hm
  have hg := List.getElem_idxOf hl
  rw [List.getElem_map, toLn_inj] at hg
  have hl' : (s.map toLn).idxOf (toLn p) < s.length := by rw [List.length_map] at hl; exact hl
  constructor
  · intro e
    subst e
    exact hg.symm
  · intro e
    have : s[(s.map toLn).idxOf (toLn p)] = s[i] := by rw [hg, e]
    exact (List.getElem_inj hnd).mp this
theorem pair_val {f : Nat → Nat → Int} {p q : NL} {x y : Nat} (hx : x < s.length) (hy : y < s.length) (hpq : p ≠ q) :
    pairStep (s.map toLn) f (toLn p, toLn q) x y = f x y + b2i (eqN p s[x] && eqN q s[y]) - b2i (eqN p s[y] && eqN q s[x]) := by
  by_cases hm : p ∈ s ∧ q ∈ s
  · obtain ⟨hp, hq⟩ := hm
    have hmp : toLn p ∈ s.map toLn := List.mem_map.mpr ⟨p, hp, rfl⟩
    have hmq : toLn q ∈ s.map toLn := List.mem_map.mpr ⟨q, hq, rfl⟩
    rw [pair_in (by rw [decide_eq_true hmp, decide_eq_true hmq]; rfl)]
    have a1 := idx_toLn hnd hx hp
    have a2 := idx_toLn hnd hy hq
    have a3 := idx_toLn hnd hx hq
    have a4 := idx_toLn hnd hy hp
    have hne : (s.map toLn).idxOf (toLn p) ≠ (s.map toLn).idxOf (toLn q) := fun e => by
      have hl : (s.map toLn).idxOf (toLn q) < s.length := by
        have := List.idxOf_lt_length_iff.mpr hmq
        rw [List.length_map] at this
        exact this
      have b1 := (idx_toLn hnd hl hp).mp e
      have b2 := (idx_toLn hnd hl hq).mp rfl
      exact hpq (b1.trans b2.symm)
    generalize (s.map toLn).idxOf (toLn p) = i at *
    generalize (s.map toLn).idxOf (toLn q) = j at *
    have b1 : (eqN p s[x] && eqN q s[y]) = decide (x = i ∧ y = j) := by
      rw [Bool.eq_iff_iff, Bool.and_eq_true, eqN_iff, eqN_iff, decide_eq_true_eq, ← a1, ← a2]
      exact ⟨fun h => ⟨h.1.symm, h.2.symm⟩, fun h => ⟨h.1.symm, h.2.symm⟩⟩
    have b2 : (eqN p s[y] && eqN q s[x]) = decide (x = j ∧ y = i) := by
      rw [Bool.eq_iff_iff, Bool.and_eq_true, eqN_iff, eqN_iff, decide_eq_true_eq, ← a3, ← a4]
      exact ⟨fun h => ⟨h.2.symm, h.1.symm⟩, fun h => ⟨h.2.symm, h.1.symm⟩⟩
    rw [b1, b2]
    unfold setF b2i
    simp only [decide_eq_true_eq]
    by_cases c1 : x = i ∧ y = j
    · obtain ⟨rfl, rfl⟩ := c1
      rw [if_neg (fun z => hne z.1), if_pos ⟨rfl, rfl⟩, if_pos ⟨rfl, rfl⟩, if_neg (fun z => hne z.1)]
      omega
    · by_cases c2 : x = j ∧ y = i
      · obtain ⟨rfl, rfl⟩ := c2
        rw [if_pos ⟨rfl, rfl⟩, if_neg c1, if_neg c1, if_pos ⟨rfl, rfl⟩]
        omega
      · rw [if_neg c2, if_neg c1, if_neg c1, if_neg c2]
        omega
  · have h1 : ¬ (toLn p ∈ s.map toLn ∧ toLn q ∈ s.map toLn) := fun z => hm ⟨by
      obtain ⟨u, hu, e⟩ := List.mem_map.mp z.1
      rw [toLn_inj] at e
      exact e ▸ hu, by
      obtain ⟨u, hu, e⟩ := List.mem_map.mp z.2
      rw [toLn_inj] at e
      exact e ▸ hu⟩
    have e1 : pairStep (s.map toLn) f (toLn p, toLn q) = f := if_neg h1
    have b1 : (eqN p s[x] && eqN q s[y]) = false := by
      rw [← Bool.not_eq_true, Bool.and_eq_true, eqN_iff, eqN_iff]
      exact fun z => hm ⟨z.1 ▸ List.getElem_mem hx, z.2 ▸ List.getElem_mem hy⟩
    have b2 : (eqN p s[y] && eqN q s[x]) = false := by
      rw [← Bool.not_eq_true, Bool.and_eq_true, eqN_iff, eqN_iff]
      exact fun z => hm ⟨z.1 ▸ List.getElem_mem hy, z.2 ▸ List.getElem_mem hx⟩
    rw [e1, b1, b2, b2i_f]
    omega
theorem pairs_val {x y : Nat} (hx : x < s.length) (hy : y < s.length) : ∀ (l : List (NL × NL)) (f : Nat → Nat → Int), (∀ z, z ∈ l → z.1 ≠ z.2) → ((l.map fun z => (toLn z.1, toLn z.2)).foldl (pairStep (s.map toLn)) f) x y = f x y + cntP l s[x] s[y] - cntP l s[y] s[x]
  | [], f, _ => by simp [cntP]
  | z :: l, f, h => by
    rw [List.map_cons, List.foldl_cons, pairs_val hx hy l _ fun w hw => h w (List.mem_cons_of_mem _ hw), pair_val hnd hx hy (h z List.mem_cons_self), cntP_cons, cntP_cons]
    omega
def cntT (t : Tr) (p q : NL) : Int := cntP (pairsN t) p q
theorem tri_val {f : Nat → Nat → Int} {x y : Nat} (hx : x < s.length) (hy : y < s.length) {t : Tr} (ht : t.1 < t.2.1 ∧ t.2.1 < t.2.2) : triStep (s.map toLn) f t x y = f x y + cntP (pairsN t) s[x] s[y] - cntP (pairsN t) s[y] s[x] := by
  unfold triStep
  rw [triPairs_nat]
  refine pairs_val hnd hx hy (pairsN t) f fun z hz => ?_
  unfold pairsN at hz
  simp only [List.mem_cons, List.mem_singleton, List.not_mem_nil, or_false] at hz
  rcases hz with rfl | rfl | rfl
  all_goals
    intro e
    simp only [Prod.mk.injEq] at e
    omega
theorem tris_val {x y : Nat} (hx : x < s.length) (hy : y < s.length) : ∀ (l : List Tr) (f : Nat → Nat → Int), (∀ t, t ∈ l → t.1 < t.2.1 ∧ t.2.1 < t.2.2) → (l.foldl (triStep (s.map toLn)) f) x y = f x y + (l.map fun t => cntP (pairsN t) s[x] s[y]).sum - (l.map fun t => cntP (pairsN t) s[y] s[x]).sum
  | [], f, _ => by simp
  | t :: l, f, h => by
    rw [List.foldl_cons, tris_val hx hy l _ fun w hw => h w (List.mem_cons_of_mem _ hw), tri_val hnd hx hy (h t List.mem_cons_self), List.map_cons, List.map_cons, List.sum_cons, List.sum_cons]
    omega
end
/-- the one triangle in which p is followed by q -/
def candN (p q : NL) : Option Tr := if p.2 = q.1 then some (p.1, p.2, q.2) else if p.2 = q.2 ∧ q.1 < p.1 then some (q.1, p.1, p.2) else if p.1 = q.1 ∧ q.2 < p.2 then some (p.1, q.2, p.2) else none
theorem cnt_cand {t : Tr} {p q : NL} (ht : t.1 < t.2.1 ∧ t.2.1 < t.2.2) (hp : p.1 < p.2) (hq : q.1 < q.2) : cntP (pairsN t) p q = b2i (decide (candN p q = some t)) := by
  obtain ⟨a, b, c⟩ := t
  obtain ⟨x, y⟩ := p
  obtain ⟨z, w⟩ := q
  dsimp only at ht hp hq
  unfold pairsN cntP
  simp only [List.map_cons, List.map_nil, List.sum_cons, List.sum_nil, Int.add_zero]
  have e1 : (eqN (a, b) (x, y) && eqN (b, c) (z, w)) = decide ((a = x ∧ b = y) ∧ b = z ∧ c = w) := by
    rw [Bool.eq_iff_iff, Bool.and_eq_true, eqN_iff, eqN_iff, decide_eq_true_eq, Prod.mk.injEq, Prod.mk.injEq]
  have e2 : (eqN (b, c) (x, y) && eqN (a, c) (z, w)) = decide ((b = x ∧ c = y) ∧ a = z ∧ c = w) := by
    rw [Bool.eq_iff_iff, Bool.and_eq_true, eqN_iff, eqN_iff, decide_eq_true_eq, Prod.mk.injEq, Prod.mk.injEq]
  have e3 : (eqN (a, c) (x, y) && eqN (a, b) (z, w)) = decide ((a = x ∧ c = y) ∧ a = z ∧ b = w) := by
    rw [Bool.eq_iff_iff, Bool.and_eq_true, eqN_iff, eqN_iff, decide_eq_true_eq, Prod.mk.injEq, Prod.mk.injEq]
  rw [e1, e2, e3]
  have e4 : decide (candN (x, y) (z, w) = some (a, b, c)) = decide ((y = z ∧ x = a ∧ y = b ∧ w = c) ∨ (y ≠ z ∧ (y = w ∧ z < x) ∧ z = a ∧ x = b ∧ y = c) ∨ (y ≠ z ∧ ¬ (y = w ∧ z < x) ∧ (x = z ∧ w < y) ∧ x = a ∧ w = b ∧ y = c)) := by
    rw [decide_eq_decide]
    unfold candN
    dsimp only
    by_cases c1 : y = z
    · rw [if_pos c1]
      simp only [Option.some.injEq, Prod.mk.injEq]
      omega
    · rw [if_neg c1]
      by_cases c2 : y = w ∧ z < x
      · rw [if_pos c2]
        simp only [Option.some.injEq, Prod.mk.injEq]
        omega
      · rw [if_neg c2]
        by_cases c3 : x = z ∧ w < y
        · rw [if_pos c3]
          simp only [Option.some.injEq, Prod.mk.injEq]
          omega
        · rw [if_neg c3]
          simp only [reduceCtorEq, false_iff]
          omega
  rw [e4]
  unfold b2i
  simp only [decide_eq_true_eq]
  by_cases d1 : (a = x ∧ b = y) ∧ b = z ∧ c = w
  · rw [if_pos d1, if_neg (by omega), if_neg (by omega), if_pos (by omega)]
    rfl
  · rw [if_neg d1]
    by_cases d2 : (b = x ∧ c = y) ∧ a = z ∧ c = w
    · rw [if_pos d2, if_neg (by omega), if_pos (by omega)]
      rfl
    · rw [if_neg d2]
      by_cases d3 : (a = x ∧ c = y) ∧ a = z ∧ b = w
      · rw [if_pos d3, if_pos (by omega)]
        rfl
      · rw [if_neg d3, if_neg (by omega)]
        rfl
theorem sum_one : ∀ (l : List Tr) (o : Option Tr), l.Nodup → (l.map fun t => b2i (decide (o = some t))).sum = b2i (decide (∃ t, o = some t ∧ t ∈ l))
  | [], o, _ => by
    have : ¬ ∃ t, o = some t ∧ t ∈ ([] : List Tr) := fun ⟨t, _, h⟩ => by cases h
    rw [decide_eq_false this]; rfl
  | t :: l, o, h => by
    rw [List.nodup_cons] at h
    rw [List.map_cons, List.sum_cons, sum_one l o h.2]
    by_cases c1 : o = some t
    · have h2 : ¬ ∃ u, o = some u ∧ u ∈ l := fun ⟨u, e, hu⟩ => by
        rw [c1] at e
        cases e
        exact h.1 hu
      have h3 : ∃ u, o = some u ∧ u ∈ t :: l := ⟨t, c1, List.mem_cons_self⟩
      rw [decide_eq_true c1, decide_eq_false h2, decide_eq_true h3]
      rfl
    · have h3 : (∃ u, o = some u ∧ u ∈ t :: l) ↔ ∃ u, o = some u ∧ u ∈ l := ⟨fun ⟨u, e, hu⟩ => by
        rcases List.mem_cons.mp hu with rfl | hu
        · exact absurd e c1
        · exact ⟨u, e, hu⟩, fun ⟨u, e, hu⟩ => ⟨u, e, List.mem_cons_of_mem _ hu⟩⟩
      rw [decide_eq_false c1, decide_eq_decide.mpr h3, b2i_f]
      omega
theorem tris_nodup {n : Nat} {ls : List Ln} : (tris n ls).Nodup := by
  unfold tris tri3
  refine List.pairwise_flatMap.mpr ⟨fun a _ => ?_, List.nodup_range.imp fun {a a'} hne x hx y hy => ?_⟩
  · unfold tri2
    refine List.pairwise_flatMap.mpr ⟨fun b _ => ?_, (List.nodup_range' (step := 1)).imp fun {b b'} hne x hx y hy => ?_⟩
    · unfold tri1
      rw [List.pairwise_map]
      refine ((List.nodup_range' (step := 1)).filter _).imp fun {c c'} hne => ?_
      intro e
      simp only [Prod.mk.injEq] at e
      exact hne e.2.2
    · unfold tri1 at hx hy
      obtain ⟨c, _, rfl⟩ := List.mem_map.mp hx
      obtain ⟨c', _, rfl⟩ := List.mem_map.mp hy
      intro e
      simp only [Prod.mk.injEq] at e
      exact hne e.2.1
  · unfold tri2 tri1 at hx hy
    obtain ⟨b, _, hx⟩ := List.mem_flatMap.mp hx
    obtain ⟨b', _, hy⟩ := List.mem_flatMap.mp hy
    obtain ⟨c, _, rfl⟩ := List.mem_map.mp hx
    obtain ⟨c', _, rfl⟩ := List.mem_map.mp hy
    intro e
    simp only [Prod.mk.injEq] at e
    exact hne e.1
theorem sideN_mem {n : Nat} {s : List NL} {p : NL} (h : p ∈ s) : sideN n s p.1 p.2 = true := by
  rw [sideN_eq]
  exact sideN_of h
theorem arr_cand {n : Nat} {s : List NL} {p q : NL} (hp : p ∈ s) (hq : q ∈ s) (h1 : p.1 < p.2 ∧ p.2 < n) (h2 : q.1 < q.2 ∧ q.2 < n) : decide (∃ t, candN p q = some t ∧ t ∈ tris n (s.map toLn)) = arrN n s p q := by
  have sp := sideN_mem (n := n) hp
  have sq := sideN_mem (n := n) hq
  have htri : ∀ a b c : Nat, triB n (s.map toLn) a b c = (sideN n s a b && (sideN n s b c && sideN n s a c)) := fun a b c => by unfold triB; rw [sideN_eq, sideN_eq, sideN_eq]
  unfold candN arrN
  rw [Bool.eq_iff_iff, decide_eq_true_eq]
  simp only [Bool.or_eq_true, Bool.and_eq_true, Nat.beq_eq, Nat.blt_eq]
  by_cases c1 : p.2 = q.1
  · rw [if_pos c1]
    have e1 : (∃ t, some (p.1, p.2, q.2) = some t ∧ t ∈ tris n (s.map toLn)) ↔ sideN n s p.1 q.2 = true := by
      constructor
      · rintro ⟨t, e, ht⟩
        cases e
        rw [tris_mem, htri] at ht
        simp only [Bool.and_eq_true] at ht
        exact ht.2.2.2.2.2
      · intro h
        refine ⟨_, rfl, tris_mem.mpr ⟨by omega, by omega, by omega, ?_⟩⟩
        rw [htri, sp, h, c1, sq]
        rfl
    rw [e1]
    constructor
    · exact fun h => .inl ⟨c1, h⟩
    · rintro (⟨_, h⟩ | ⟨e, _⟩ | ⟨e, _⟩)
      · exact h
      · omega
      · omega
  · rw [if_neg c1]
    by_cases c2 : p.2 = q.2 ∧ q.1 < p.1
    · rw [if_pos c2]
      have e1 : (∃ t, some (q.1, p.1, p.2) = some t ∧ t ∈ tris n (s.map toLn)) ↔ sideN n s q.1 p.1 = true := by
        constructor
        · rintro ⟨t, e, ht⟩
          cases e
          rw [tris_mem, htri] at ht
          simp only [Bool.and_eq_true] at ht
          exact ht.2.2.2.1
        · intro h
          refine ⟨_, rfl, tris_mem.mpr ⟨by omega, by omega, by omega, ?_⟩⟩
          rw [htri, sp, h, c2.1, sq]
          rfl
      rw [e1]
      constructor
      · exact fun h => .inr (.inl ⟨c2.1, c2.2, h⟩)
      · rintro (⟨e, _⟩ | ⟨_, _, h⟩ | ⟨e, e2, _⟩)
        · exact absurd e c1
        · exact h
        · omega
    · rw [if_neg c2]
      by_cases c3 : p.1 = q.1 ∧ q.2 < p.2
      · rw [if_pos c3]
        have e1 : (∃ t, some (p.1, q.2, p.2) = some t ∧ t ∈ tris n (s.map toLn)) ↔ sideN n s q.2 p.2 = true := by
          constructor
          · rintro ⟨t, e, ht⟩
            cases e
            rw [tris_mem, htri] at ht
            simp only [Bool.and_eq_true] at ht
            exact ht.2.2.2.2.1
          · intro h
            refine ⟨_, rfl, tris_mem.mpr ⟨by omega, by omega, by omega, ?_⟩⟩
            rw [htri, sp, h, c3.1, sq]
            rfl
        rw [e1]
        constructor
        · exact fun h => .inr (.inr ⟨c3.1, c3.2, h⟩)
        · rintro (⟨e, _⟩ | ⟨e, e2, _⟩ | ⟨_, _, h⟩)
          · exact absurd e c1
          · exact absurd ⟨e, e2⟩ c2
          · exact h
      · rw [if_neg c3]
        constructor
        · rintro ⟨t, e, _⟩
          cases e
        · rintro (⟨e, _⟩ | ⟨e, e2, _⟩ | ⟨e, e2, _⟩)
          · exact absurd e c1
          · exact absurd ⟨e, e2⟩ c2
          · exact absurd ⟨e, e2⟩ c3
/-- the form's number at two lines -/
def frmN (n : Nat) (s : List NL) (p q : NL) : Int := b2i (arrN n s p q) - b2i (arrN n s q p)
theorem form_arrow {n : Nat} {s : List NL} (hnd : s.Nodup) (hs : ∀ p, p ∈ s → p.1 < p.2 ∧ p.2 < n) {x y : Nat} (hx : x < s.length) (hy : y < s.length) : formF n (s.map toLn) x y = frmN n s s[x] s[y] := by
  have ht : ∀ t, t ∈ tris n (s.map toLn) → t.1 < t.2.1 ∧ t.2.1 < t.2.2 := fun t h => by
    obtain ⟨a, b, c⟩ := t
    have := tris_mem.mp h
    exact ⟨this.1, this.2.1⟩
  have key : ∀ {p q : NL}, p ∈ s → q ∈ s → ((tris n (s.map toLn)).map fun t => cntP (pairsN t) p q).sum = b2i (arrN n s p q) := fun {p q} hp hq => by
    have : ((tris n (s.map toLn)).map fun t => cntP (pairsN t) p q) = (tris n (s.map toLn)).map fun t => b2i (decide (candN p q = some t)) := List.map_congr_left fun t h => cnt_cand (ht t h) (hs p hp).1 (hs q hq).1
    rw [this, sum_one _ _ tris_nodup, arr_cand hp hq (hs p hp) (hs q hq)]
  unfold formF
  rw [tris_val hnd hx hy _ _ ht, key (List.getElem_mem hx) (List.getElem_mem hy), key (List.getElem_mem hy) (List.getElem_mem hx)]
  unfold frmN
  omega
theorem arr_excl {n : Nat} {s : List NL} {p q : NL} (h1 : p.1 < p.2) (h2 : q.1 < q.2) (h : arrN n s p q = true) : arrN n s q p = false := by
  rw [← Bool.not_eq_true]
  intro h'
  unfold arrN at h h'
  simp only [Bool.or_eq_true, Bool.and_eq_true, Nat.beq_eq, Nat.blt_eq] at h h'
  rcases h with ⟨e1, _⟩ | ⟨e1, e2, _⟩ | ⟨e1, e2, _⟩ <;> rcases h' with ⟨e3, _⟩ | ⟨e3, e4, _⟩ | ⟨e3, e4, _⟩ <;> omega
end AT

/-! ## a cut turned at a line: all of them gone through by the kernel -/
namespace AT
open PySem PySem.Spec PyProof.Rows L2 Evl
def thirds (n : Nat) (s : List NL) (p : NL) : List Nat := (List.range n).filter (thirdN n s p)
def b2n (b : Bool) : Nat := cond b 1 0
def pairOk (n : Nat) (s o : List NL) (u w p q : NL) : Bool :=
  cond (eqN p u) (Nat.beq (b2n (arrN n o w q) + b2n (arrN n s u q)) (b2n (arrN n o q w) + b2n (arrN n s q u)))
  (cond (eqN q u) (Nat.beq (b2n (arrN n o p w) + b2n (arrN n s p u)) (b2n (arrN n o w p) + b2n (arrN n s u p)))
   (Nat.beq (b2n (arrN n o p q) + (b2n (arrN n s q p) + b2n (arrN n s u p && arrN n s q u))) (b2n (arrN n o q p) + (b2n (arrN n s p q) + b2n (arrN n s p u && arrN n s u q)))))
def pairsOk (n : Nat) (s o : List NL) (u w : NL) : List NL → Bool
  | [] => true
  | p :: r => r.all (pairOk n s o u w p) && pairsOk n s o u w r
def flip2 (n : Nat) (s : List NL) (u w : NL) (o : List NL) : Bool :=
  cutN n o && (!(s.any (eqN w)) && ((match thirds n o w with | [a, b] => eqN (a, b) u | _ => false) && pairsOk n s o u w s))
def flipAt (n : Nat) (s : List NL) (u : NL) : Bool := match thirds n s u with
  | [m1, m2] => flip2 n s u (m1, m2) (isortN ((s.filter fun q => !eqN q u) ++ [(m1, m2)]))
  | _ => false
def flipOk (n : Nat) (s : List NL) : Bool := s.all (flipAt n s)
theorem flip_8 : chk (flipOk 8) (linesN 8) [] 5 = true := by decide +kernel
theorem flip_9 : chk (flipOk 9) (linesN 9) [] 6 = true := by decide +kernel
theorem flip_all (n : Nat) (h1 : 4 ≤ n) (h2 : n ≤ 9) : chk (flipOk n) (linesN n) [] (n - 3) = true := by
  rcases (show n = 4 ∨ n = 5 ∨ n = 6 ∨ n = 7 ∨ n = 8 ∨ n = 9 by omega) with rfl | rfl | rfl | rfl | rfl | rfl
  · decide +kernel
  · decide +kernel
  · decide +kernel
  · decide +kernel
  · exact flip_8
  · exact flip_9
end AT

namespace AT
open PySem PySem.Spec PyProof.Rows L2 Evl
/-- what a cut of lines in the rings' own numbers has -/
structure CutS (n : Nat) (s : List NL) : Prop where
  h4 : 4 ≤ n
  h9 : n ≤ 9
  len : s.length = n - 3
  nd : s.Nodup
  srt : s.Pairwise ltN
  ln : ∀ p, p ∈ s → p.1 < p.2 ∧ p.2 < n
  cut : IsCut (n : Int) (s.map toLn)
theorem pw_nd {s : List NL} (h : s.Pairwise ltN) : s.Nodup := List.Pairwise.imp (S := fun a b => a ≠ b) (fun {a b} h e => by subst e; exact ltN_irr h) h
theorem IsCut.cutS {n : Nat} {ls : List Ln} (h : IsCut (n : Int) ls) : ∃ s, ls = s.map toLn ∧ CutS n s := by
  obtain ⟨n', s, e1, e2, e3, e4, e5, e6, e7, e8⟩ := h.nat
  have : n' = n := by omega
  subst this
  subst e4
  exact ⟨s, rfl, e2, e3, e5, pw_nd e8, e8, fun p hp => by
    have := linesN_mem.mp (e6.subset hp)
    omega, h⟩
theorem cutN_S {n : Nat} {s : List NL} (h1 : 4 ≤ n) (h2 : n ≤ 9) (h : cutN n s = true) : CutS n s := by
  have hC := cutN_is h1 h2 h
  unfold cutN at h
  simp only [Bool.and_eq_true, Nat.beq_eq] at h
  obtain ⟨hl, ha, hs, _⟩ := h
  have hs := sortedN_pw hs
  refine ⟨h1, h2, hl, pw_nd hs, hs, fun p hp => ?_, hC⟩
  have := List.all_eq_true.mp ha p hp
  simp only [Bool.and_eq_true, Nat.blt_eq] at this
  omega
theorem left_third {n : Nat} {s : List NL} (C : CutS n s) {u : NL} (hu : u ∈ s) {x : Int} : x ∈ leftOf n (s.map toLn) (toLn u) ↔ ∃ m, m < n ∧ thirdN n s u m = true ∧ x = (m : Int) := by
  obtain ⟨hu1, hu2⟩ := C.ln u hu
  have htri : ∀ a b c : Nat, triB n (s.map toLn) a b c = (sideN n s a b && (sideN n s b c && sideN n s a c)) := fun a b c => by unfold triB; rw [sideN_eq, sideN_eq, sideN_eq]
  have hmem : ∀ (t : Tr), t ∈ (tris n (s.map toLn)).filter (fun t => hasT t (toLn u).1 && hasT t (toLn u).2) ↔ t ∈ tris n (s.map toLn) ∧ hasT t (u.1 : Int) = true ∧ hasT t (u.2 : Int) = true := fun t => by
    rw [List.mem_filter, Bool.and_eq_true]
    rfl
  unfold leftOf
  rw [List.mem_map]
  constructor
  · rintro ⟨⟨a, b, c⟩, ht, rfl⟩
    rw [hmem, tris_mem, htri] at ht
    simp only [Bool.and_eq_true] at ht
    obtain ⟨⟨t1, t2, t3, s1, s2, s3⟩, h1, h2⟩ := ht
    unfold hasT at h1 h2
    simp only [Bool.or_eq_true, decide_eq_true_eq] at h1 h2
    have hu' : (toLn u).1 = (u.1 : Int) ∧ (toLn u).2 = (u.2 : Int) := ⟨rfl, rfl⟩
    rw [hu'.1, hu'.2]
    dsimp only
    rcases (show (u.1 = a ∧ u.2 = b) ∨ (u.1 = a ∧ u.2 = c) ∨ (u.1 = b ∧ u.2 = c) by omega) with ⟨e1, e2⟩ | ⟨e1, e2⟩ | ⟨e1, e2⟩
    · refine ⟨c, t3, ?_, by omega⟩
      unfold thirdN
      simp only [Bool.or_eq_true, Bool.and_eq_true, Nat.blt_eq]
      rw [e1, e2]
      exact .inr (.inr ⟨t2, s3, s2⟩)
    · refine ⟨b, by omega, ?_, by omega⟩
      unfold thirdN
      simp only [Bool.or_eq_true, Bool.and_eq_true, Nat.blt_eq]
      rw [e1, e2]
      exact .inr (.inl ⟨t1, t2, s1, s2⟩)
    · refine ⟨a, by omega, ?_, by omega⟩
      unfold thirdN
      simp only [Bool.or_eq_true, Bool.and_eq_true, Nat.blt_eq]
      rw [e1, e2]
      exact .inl ⟨t1, s1, s3⟩
  · rintro ⟨m, hm, h, rfl⟩
    have sp := sideN_mem (n := n) hu
    have hval : ∀ t : Tr, (t.1 + t.2.1 + t.2.2 = u.1 + u.2 + m) → (t.1 : Int) + t.2.1 + t.2.2 - (toLn u).1 - (toLn u).2 = (m : Int) := fun t ht => by
      show (t.1 : Int) + t.2.1 + t.2.2 - (u.1 : Int) - (u.2 : Int) = (m : Int)
      omega
    unfold thirdN at h
    simp only [Bool.or_eq_true, Bool.and_eq_true, Nat.blt_eq] at h
    rcases h with ⟨h3, h4, h5⟩ | ⟨h3, h4, h5, h6⟩ | ⟨h3, h4, h5⟩
    · exact ⟨(m, u.1, u.2), (hmem _).mpr ⟨tris_mem.mpr ⟨h3, hu1, hu2, by rw [htri, h4, sp, h5]; rfl⟩, by simp [hasT], by simp [hasT]⟩, hval _ (by dsimp only; omega)⟩
    · exact ⟨(u.1, m, u.2), (hmem _).mpr ⟨tris_mem.mpr ⟨h3, h4, hu2, by rw [htri, h5, sp, h6]; rfl⟩, by simp [hasT], by simp [hasT]⟩, hval _ (by dsimp only; omega)⟩
    · exact ⟨(u.1, u.2, m), (hmem _).mpr ⟨tris_mem.mpr ⟨hu1, h3, hm, by rw [htri, h4, sp, h5]; rfl⟩, by simp [hasT], by simp [hasT]⟩, hval _ rfl⟩
theorem thirds_two {n : Nat} {s : List NL} (C : CutS n s) {u : NL} (hu : u ∈ s) {a b : Nat} (h : thirds n s u = [a, b]) : minI (leftOf n (s.map toLn) (toLn u)) = a ∧ maxL (leftOf n (s.map toLn) (toLn u)) = b ∧ a < b ∧ b < n := by
  have hab : a < b := by
    have : (thirds n s u).Pairwise (· < ·) := List.pairwise_lt_range.filter _
    rw [h] at this
    simpa using this
  have hmem : ∀ x, x ∈ leftOf n (s.map toLn) (toLn u) ↔ x = (a : Int) ∨ x = (b : Int) := fun x => by
    rw [left_third C hu]
    have hm : ∀ m, m < n ∧ thirdN n s u m = true ↔ m = a ∨ m = b := fun m => by
      have : m ∈ thirds n s u ↔ m < n ∧ thirdN n s u m = true := by unfold thirds; rw [List.mem_filter, List.mem_range]
      rw [← this, h]
      simp
    constructor
    · rintro ⟨m, h1, h2, rfl⟩
      rcases (hm m).mp ⟨h1, h2⟩ with rfl | rfl
      · exact .inl rfl
      · exact .inr rfl
    · rintro (rfl | rfl)
      · obtain ⟨h1, h2⟩ := (hm a).mpr (.inl rfl)
        exact ⟨a, h1, h2, rfl⟩
      · obtain ⟨h1, h2⟩ := (hm b).mpr (.inr rfl)
        exact ⟨b, h1, h2, rfl⟩
  have hb : b < n := by
    have : b ∈ thirds n s u := by rw [h]; simp
    exact List.mem_range.mp (List.mem_filter.mp this).1
  refine ⟨(minI_eq ((hmem _).mpr (.inl rfl)) fun y hy => ?_).symm, (maxL_eq ((hmem _).mpr (.inr rfl)) fun y hy => ?_).symm, hab, hb⟩
  · rcases (hmem y).mp hy with rfl | rfl <;> omega
  · rcases (hmem y).mp hy with rfl | rfl <;> omega
theorem filter_toLn (s : List NL) (u : NL) : (s.map toLn).filter (fun q => !decide (q = toLn u)) = (s.filter fun q => !eqN q u).map toLn := by
  rw [List.filter_map]
  congr 1
  refine List.filter_congr fun p _ => ?_
  show (!decide (toLn p = toLn u)) = !eqN p u
  congr 1
  rw [Bool.eq_iff_iff, decide_eq_true_eq, toLn_inj, eqN_iff]
theorem turnC_eq {n : Nat} {s : List NL} (C : CutS n s) {u : NL} (hu : u ∈ s) {a b : Nat} (h : thirds n s u = [a, b]) : turnC n (s.map toLn) (toLn u) = sortP (((s.filter fun q => !eqN q u) ++ [(a, b)]).map toLn) := by
  obtain ⟨h1, h2, _⟩ := thirds_two C hu h
  unfold turnC
  rw [h1, h2, filter_toLn, List.map_append]
  rfl
/-- what a line becomes -/
def phiN (u w p : NL) : NL := if p = u then w else p
structure Flip (n : Nat) (s : List NL) (u w : NL) (o : List NL) : Prop where
  C : CutS n o
  nw : w ∉ s
  perm : o.Perm ((s.filter fun q => !eqN q u) ++ [w])
  turn : turnC n (s.map toLn) (toLn u) = o.map toLn
  back : turnC n (o.map toLn) (toLn w) = s.map toLn
  frm : ∀ p q, p ∈ s → q ∈ s → frmN n o (phiN u w p) (phiN u w q) = if p = u ∨ q = u then 0 - frmN n s p q else frmN n s p q + thr (frmN n s p u) (frmN n s u q)
theorem b2n_i (b : Bool) : ((b2n b : Nat) : Int) = b2i b := by cases b <;> rfl
theorem thr_frm {n : Nat} {s : List NL} {p q u : NL} (hp : p.1 < p.2) (hq : q.1 < q.2) (hu : u.1 < u.2) : thr (frmN n s p u) (frmN n s u q) = b2i (arrN n s p u && arrN n s u q) - b2i (arrN n s u p && arrN n s q u) := by
  unfold frmN
  have x1 : arrN n s p u = true → arrN n s u p = false := arr_excl hp hu
  have x2 : arrN n s u q = true → arrN n s q u = false := arr_excl hu hq
  generalize arrN n s p u = a1 at *
  generalize arrN n s u p = a2 at *
  generalize arrN n s u q = a3 at *
  generalize arrN n s q u = a4 at *
  cases a1 <;> cases a2 <;> cases a3 <;> cases a4 <;> first | rfl | (exact absurd (x1 rfl) (by decide)) | (exact absurd (x2 rfl) (by decide))
theorem frm_anti (n : Nat) (s : List NL) (p q : NL) : frmN n s q p = 0 - frmN n s p q := by unfold frmN; omega
theorem flip_of {n : Nat} {s : List NL} (C : CutS n s) (h : flipOk n s = true) {u : NL} (hu : u ∈ s) : ∃ w o, Flip n s u w o := by
  have h := List.all_eq_true.mp h u hu
  unfold flipAt at h
  split at h
  · rename_i m1 m2 hth
    unfold flip2 at h
    simp only [Bool.and_eq_true, Bool.not_eq_true'] at h
    obtain ⟨h1, h2, h3, h4⟩ := h
    generalize ho : isortN ((s.filter fun q => !eqN q u) ++ [(m1, m2)]) = o at *
    have hperm : o.Perm ((s.filter fun q => !eqN q u) ++ [(m1, m2)]) := ho ▸ isortN_perm _
    have Co := cutN_S C.h4 C.h9 h1
    have hnw : (m1, m2) ∉ s := fun z => by
      have : s.any (eqN (m1, m2)) = true := List.any_eq_true.mpr ⟨_, z, eqN_iff.mpr rfl⟩
      rw [this] at h2
      cases h2
    have hwo : (m1, m2) ∈ o := hperm.mem_iff.mpr (by simp)
    have hturn : turnC n (s.map toLn) (toLn u) = o.map toLn := by
      rw [turnC_eq C hu hth, sortP_cut (c := n) (by rw [ho]; exact h1), ho]
    split at h3
    · rename_i a b hth2
      rw [eqN_iff] at h3
      subst h3
      have hback : turnC n (o.map toLn) (toLn (m1, m2)) = s.map toLn := by
        rw [turnC_eq Co hwo hth2]
        refine sortP_eq (List.Perm.map _ ?_) ?_
        · have e1 : (o.filter fun q => !eqN q (m1, m2)).Perm (s.filter fun q => !eqN q (a, b)) := by
            have e2 := hperm.filter (fun q => !eqN q (m1, m2))
            rw [List.filter_append] at e2
            have e3 : [(m1, m2)].filter (fun q => !eqN q (m1, m2)) = [] := by
              have : eqN (m1, m2) (m1, m2) = true := eqN_iff.mpr rfl
              simp [this]
            have e4 : ((s.filter fun q => !eqN q (a, b)).filter fun q => !eqN q (m1, m2)) = s.filter fun q => !eqN q (a, b) := by
              rw [List.filter_eq_self]
              intro p hp
              have hp' := (List.mem_filter.mp hp).1
              rw [Bool.not_eq_true', ← Bool.not_eq_true, eqN_iff]
              exact fun e => hnw (e ▸ hp')
            rw [e3, e4, List.append_nil] at e2
            exact e2
          refine (e1.append_right _).trans ?_
          refine (perm_of_sub ?_ ?_ ?_)
          · rw [List.nodup_append]
            refine ⟨C.nd.filter _, by simp, fun x hx y hy e => ?_⟩
            rw [List.mem_singleton] at hy
            subst hy; subst e
            have := (List.mem_filter.mp hx).2
            rw [Bool.not_eq_true', ← Bool.not_eq_true, eqN_iff] at this
            exact this rfl
          · intro x hx
            rcases List.mem_append.mp hx with hx | hx
            · exact (List.mem_filter.mp hx).1
            · rw [List.mem_singleton] at hx
              rw [hx]; exact hu
          · have l1 := hperm.length_eq
            rw [List.length_append] at l1 ⊢
            have l2 := Co.len
            have l3 := C.len
            simp only [List.length_cons, List.length_nil] at *
            omega
        · rw [List.pairwise_map]
          exact C.srt.imp fun h => leP_of (ltP_toLn.mpr h)
      refine ⟨(m1, m2), o, Co, hnw, hperm, hturn, hback, ?_⟩
      generalize (m1, m2) = w at *
      generalize (a, b) = u at *
      have hpair : ∀ p q, pairOk n s o u w p q = true → p ∈ s → q ∈ s → frmN n o (phiN u w p) (phiN u w q) = if p = u ∨ q = u then 0 - frmN n s p q else frmN n s p q + thr (frmN n s p u) (frmN n s u q) := fun p q h hp hq => by
        unfold pairOk at h
        by_cases c1 : p = u
        · subst c1
          rw [show eqN p p = true from eqN_iff.mpr rfl] at h
          simp only [cond_true, Nat.beq_eq] at h
          rw [if_pos (.inl rfl)]
          by_cases c2 : q = p
          · subst c2
            unfold frmN; omega
          · have e1 : phiN p w p = w := if_pos rfl
            have e2 : phiN p w q = q := if_neg c2
            rw [e1, e2]
            unfold frmN
            rw [← b2n_i, ← b2n_i, ← b2n_i, ← b2n_i]
            omega
        · rw [show eqN p u = false from by rw [← Bool.not_eq_true, eqN_iff]; exact c1] at h
          simp only [cond_false] at h
          have e1 : phiN u w p = p := if_neg c1
          by_cases c2 : q = u
          · subst c2
            rw [show eqN q q = true from eqN_iff.mpr rfl] at h
            simp only [cond_true, Nat.beq_eq] at h
            rw [if_pos (.inr rfl)]
            have e2 : phiN q w q = w := if_pos rfl
            rw [e1, e2]
            unfold frmN
            rw [← b2n_i, ← b2n_i, ← b2n_i, ← b2n_i]
            omega
          · rw [show eqN q u = false from by rw [← Bool.not_eq_true, eqN_iff]; exact c2] at h
            simp only [cond_false, Nat.beq_eq] at h
            have e2 : phiN u w q = q := if_neg c2
            rw [if_neg (fun z => z.elim c1 c2), e1, e2, thr_frm (C.ln p hp).1 (C.ln q hq).1 (C.ln u hu).1]
            unfold frmN
            rw [← b2n_i, ← b2n_i, ← b2n_i, ← b2n_i, ← b2n_i, ← b2n_i]
            omega
      have hdiag : ∀ p, p ∈ s → frmN n o (phiN u w p) (phiN u w p) = if p = u ∨ p = u then 0 - frmN n s p p else frmN n s p p + thr (frmN n s p u) (frmN n s u p) := fun p hp => by
        have z1 : ∀ (x : List NL) (q : NL), frmN n x q q = 0 := fun x q => by unfold frmN; omega
        rw [z1, z1]
        by_cases c : p = u
        · rw [if_pos (.inl c)]; rfl
        · rw [if_neg (fun z => z.elim c c), frm_anti n s p u]
          unfold thr
          rw [if_neg (by omega), if_neg (by omega)]
          rfl
      have hall : ∀ l : List NL, pairsOk n s o u w l = true → l.Pairwise (fun p q => pairOk n s o u w p q = true) := fun l => by
        induction l with
        | nil => exact fun _ => .nil
        | cons p r ih =>
          intro h
          have h : (r.all (pairOk n s o u w p) && pairsOk n s o u w r) = true := h
          rw [Bool.and_eq_true] at h
          exact List.pairwise_cons.mpr ⟨fun q hq => List.all_eq_true.mp h.1 q hq, ih h.2⟩
      have hpw := hall s h4
      intro p q hp hq
      obtain ⟨i, hi, rfl⟩ := List.mem_iff_getElem.mp hp
      obtain ⟨j, hj, rfl⟩ := List.mem_iff_getElem.mp hq
      rcases Nat.lt_trichotomy i j with hij | hij | hij
      · exact hpair _ _ (List.pairwise_iff_getElem.mp hpw i j hi hj hij) hp hq
      · subst hij
        exact hdiag _ hp
      · have := hpair _ _ (List.pairwise_iff_getElem.mp hpw j i hj hi hij) hq hp
        rw [frm_anti n o, this]
        by_cases c : s[i] = u ∨ s[j] = u
        · rw [if_pos c, if_pos c.symm, frm_anti n s s[i] s[j]]
          omega
        · rw [if_neg c, if_neg (fun z => c z.symm), frm_anti n s s[i] s[j], frm_anti n s s[i] u, frm_anti n s u s[j], thr_neg]
          omega
    · cases h3
  · cases h
end AT

namespace AT
open PySem PySem.Spec PyProof.Rows L2 Evl
theorem form_ok {n : Nat} {ls : List Ln} (h : IsCut (n : Int) ls) : FormOf ls.length (formF n ls) := by
  obtain ⟨s, rfl, C⟩ := h.cutS
  have hl := h.nat_len
  rw [List.length_map] at *
  refine ⟨by omega, by omega, fun i j hi hj => ?_⟩
  rw [form_arrow C.nd C.ln hi hj, form_arrow C.nd C.ln hj hi]
  unfold frmN b2i
  refine ⟨by omega, ?_, ?_⟩ <;> split <;> split <;> omega
def namesOf (ls other : List Ln) (w : Ln) : List Nat := ls.map fun l => if l ∈ other then other.idxOf l else other.idxOf w
structure FlipL (n : Nat) (ls : List Ln) (box : Nat) (w : Ln) : Prop where
  cut : IsCut (n : Int) (turnC n ls (lnD ls box))
  len : (turnC n ls (lnD ls box)).length = ls.length
  fresh : (turnC n ls (lnD ls box)).filter (fun l => !decide (l ∈ ls)) = [w]
  wmem : w ∈ turnC n ls (lnD ls box)
  back : turnC n (turnC n ls (lnD ls box)) w = ls
  nms : Names ls.length (namesOf ls (turnC n ls (lnD ls box)) w)
  frm : Fm ls.length (formF n (turnC n ls (lnD ls box))) = Fm ls.length (renF (turnF (formF n ls) box) (namesOf ls (turnC n ls (lnD ls box)) w))
theorem mem_toLn {s : List NL} {p : NL} : toLn p ∈ s.map toLn ↔ p ∈ s := by
  constructor
  · intro h
    obtain ⟨q, hq, e⟩ := List.mem_map.mp h
    rw [toLn_inj] at e
    exact e ▸ hq
  · exact fun h => List.mem_map.mpr ⟨p, h, rfl⟩
theorem flipL {n : Nat} {ls : List Ln} (h : IsCut (n : Int) ls) {box : Nat} (hb : box < ls.length) : ∃ w, FlipL n ls box w := by
  obtain ⟨n', s, e1, e2, e3, e4, e5, e6, e7⟩ := cut_chk (P := flipOk) h flip_all
  have : n' = n := by omega
  subst this
  subst e4
  obtain ⟨s', es, C⟩ := h.cutS
  have : s' = s := by
    have h1 : (s.map toLn).map ofLn = s := by
      rw [List.map_map]
      have : s.map (ofLn ∘ toLn) = s.map id := List.map_congr_left fun p _ => by unfold ofLn toLn; rfl
      rw [this, List.map_id]
    have h2 : (s'.map toLn).map ofLn = s' := by
      rw [List.map_map]
      have : s'.map (ofLn ∘ toLn) = s'.map id := List.map_congr_left fun p _ => by unfold ofLn toLn; rfl
      rw [this, List.map_id]
    rw [← h1, ← h2, es]
  subst this
  clear es
  rw [List.length_map] at hb
  have hu : s'[box] ∈ s' := List.getElem_mem hb
  have hln : lnD (s'.map toLn) box = toLn s'[box] := by rw [lnD_get (by rw [List.length_map]; exact hb), List.getElem_map]
  obtain ⟨w, o, F⟩ := flip_of C e7 hu
  have hnd := C.nd
  have hou : ∀ {i}, (hi : i < s'.length) → (s'[i] = s'[box] ↔ i = box) := fun {i} hi => List.getElem_inj hnd
  generalize hu' : s'[box] = u at *
  have hmem : ∀ p, p ∈ o ↔ (p ∈ s' ∧ p ≠ u) ∨ p = w := fun p => by
    rw [F.perm.mem_iff, List.mem_append, List.mem_filter, List.mem_singleton, Bool.not_eq_true', ← Bool.not_eq_true, eqN_iff]
  have hwu : w ≠ u := fun e => F.nw (e ▸ hu)
  have huo : u ∉ o := fun z => by
    rcases (hmem u).mp z with ⟨_, z⟩ | z
    · exact z rfl
    · exact hwu z.symm
  have hwo : w ∈ o := (hmem w).mpr (.inr rfl)
  have hphi : ∀ p, p ∈ s' → phiN u w p ∈ o := fun p hp => by
    unfold phiN
    split
    · exact hwo
    · rename_i c
      exact (hmem p).mpr (.inl ⟨hp, c⟩)
  have hinj : ∀ p q, p ∈ s' → q ∈ s' → phiN u w p = phiN u w q → p = q := fun p q hp hq e => by
    unfold phiN at e
    split at e <;> split at e
    · rename_i c1 c2
      rw [c1, c2]
    · exact absurd (e ▸ hq) F.nw
    · exact absurd (e.symm ▸ hp) F.nw
    · exact e
  have hol : o.length = s'.length := by rw [F.C.len, C.len]
  have hnm : namesOf (s'.map toLn) (o.map toLn) (toLn w) = s'.map fun p => (o.map toLn).idxOf (toLn (phiN u w p)) := by
    unfold namesOf
    rw [List.map_map]
    refine List.map_congr_left fun p hp => ?_
    show (if toLn p ∈ o.map toLn then _ else _) = _
    unfold phiN
    by_cases c : p = u
    · subst c
      rw [if_neg (fun z => huo (mem_toLn.mp z)), if_pos rfl]
    · rw [if_pos (mem_toLn.mpr ((hmem p).mpr (.inl ⟨hp, c⟩))), if_neg c]
  have hix : ∀ p, p ∈ o → (o.map toLn).idxOf (toLn p) < o.length := fun p hp => by
    have := List.idxOf_lt_length_iff.mpr (mem_toLn.mpr hp)
    rw [List.length_map] at this
    exact this
  have hN : Names s'.length (s'.map fun p => (o.map toLn).idxOf (toLn (phiN u w p))) := by
    refine perm_of_sub ?_ (fun x hx => ?_) (by simp)
    · show List.Pairwise _ _
      rw [List.pairwise_map]
      refine List.Pairwise.imp_of_mem ?_ hnd
      intro p q hp hq hne e
      have h1 := hphi p hp
      have h2 := hphi q hq
      have a1 := (idx_toLn F.C.nd (hix _ h2) h1).mp e
      have a2 := (idx_toLn F.C.nd (hix _ h2) h2).mp rfl
      exact hne (hinj p q hp hq (a1.trans a2.symm))
    · obtain ⟨p, hp, rfl⟩ := List.mem_map.mp hx
      rw [List.mem_range, ← hol]
      exact hix _ (hphi p hp)
  refine ⟨toLn w, ?_⟩
  have e0 : turnC n' (s'.map toLn) (lnD (s'.map toLn) box) = o.map toLn := by rw [hln, F.turn]
  refine ⟨by rw [e0]; exact F.C.cut, by rw [e0, List.length_map, List.length_map, hol], ?_, by rw [e0]; exact mem_toLn.mpr hwo, by rw [e0]; exact F.back, by rw [e0, hnm, List.length_map]; exact hN, ?_⟩
  · rw [e0]
    have h1 : (o.map toLn).filter (fun l => !decide (l ∈ s'.map toLn)) = (o.filter fun p => !decide (p ∈ s')).map toLn := by
      rw [List.filter_map]
      congr 1
      refine List.filter_congr fun p _ => ?_
      show (!decide (toLn p ∈ s'.map toLn)) = _
      congr 1
      rw [decide_eq_decide]
      exact mem_toLn
    have h2 := F.perm.filter (fun p => !decide (p ∈ s'))
    rw [List.filter_append] at h2
    have h3 : ((s'.filter fun q => !eqN q u).filter fun p => !decide (p ∈ s')) = [] := by
      rw [List.filter_eq_nil_iff]
      intro p hp
      have := (List.mem_filter.mp hp).1
      simp [this]
    have h4 : [w].filter (fun p => !decide (p ∈ s')) = [w] := by simp [F.nw]
    rw [h3, h4, List.nil_append] at h2
    rw [h1, List.perm_singleton.mp h2]
    rfl
  · rw [e0, hnm, List.length_map]
    refine fm_ext fun a b ha hb' => ?_
    have key : ∀ a, a < s'.length → ∃ i, ∃ hi : i < s'.length, (s'.map fun p => (o.map toLn).idxOf (toLn (phiN u w p))).idxOf a = i ∧ ∃ ha : a < o.length, o[a] = phiN u w s'[i] := fun a ha => by
      have h1 := hN.ix ha
      have h2 := hN.at_ix ha
      rw [List.getElem?_map, List.getElem?_eq_getElem h1] at h2
      have h3 := Option.some.inj h2
      have ha' : a < o.length := by omega
      refine ⟨_, h1, rfl, ha', ?_⟩
      exact ((idx_toLn F.C.nd ha' (hphi _ (List.getElem_mem h1))).mp h3).symm
    obtain ⟨i, hi, ei, ha', eai⟩ := key a ha
    obtain ⟨j, hj, ej, hb'', ebj⟩ := key b hb'
    show _ = turnF _ box _ _
    rw [ei, ej, form_arrow F.C.nd F.C.ln ha' hb'', eai, ebj, F.frm _ _ (List.getElem_mem hi) (List.getElem_mem hj)]
    unfold turnF
    rw [form_arrow hnd C.ln hi hj, form_arrow hnd C.ln hi hb, form_arrow hnd C.ln hb hj, hu']
    by_cases c : i = box ∨ j = box
    · rw [if_pos c, if_pos (c.imp (hou hi).mpr (hou hj).mpr)]
    · rw [if_neg c, if_neg (fun z => c (z.imp (hou hi).mp (hou hj).mp))]
end AT

namespace AT
open PySem PySem.Spec PyProof.Rows L2 Evl
def sp_law (K : Frag) : Sp := fun vs H Q _ => ∃ (a : Addr) (ns : List Int), vs = [.ref a] ∧ SqL K H a (ns.map V.int) ∧ ns.length ≤ 63 ∧ ∀ H', Q (.bl true) H'
section
variable {K : Frag} {σ : St} {H H0 : Hp} {t1 t2 t3 tl : TE} {t : TT} {a x : Addr} {n : Nat} {ls : List Ln} {u : Ln} {E : XK} {CC CB : Addr}
/-- list(lines) for lines -/
theorem er_listP (h : Ev t1 σ H (.ref a)) (hL : LP K H a ls) : Er (tCB (rListS K) (tCons t1 tNil)) σ H (RLP K ls) := by
  obtain ⟨as, hA, hP⟩ := id hL
  intro H1 e Q q
  refine el_list h hA H1 e _ fun p H2 hp e2 hp2 => q _ H2 e2 ⟨p, rfl, hp, as, hp2, paired_mono hP fun _ _ z => z.mono (e.trans e2)⟩
theorem er_formofL (h1 : Ev t1 σ H (.int (n : Int))) (h2 : Er t2 σ H (RLP K ls)) (hC : IsCut n ls) : Er (tCall (sp_form_of K CC) [] E (tCons t1 (tCons t2 tNil))) σ H (RM (Fm ls.length (formF n ls))) := fun H1 e Q q =>
  h1 H1 e _ fun H2 e2 => h2 H2 (e.trans e2) _ fun v H3 e3 ⟨p, hv, hO⟩ => by
    subst hv
    exact ⟨n, p, ls, rfl, hO.lp, by have := hC.nat_len; omega, fun z => absurd hC z, fun m em hC' H' r e4 hR => by
      have : m = n := by omega
      subst this
      exact q _ H' ((e2.trans e3).trans e4) ⟨r, rfl, hR.back (e2.trans e3)⟩⟩
theorem er_cuttL (h1 : Ev t1 σ H (.int (n : Int))) (h2 : Er t2 σ H (RLP K ls)) (hC : IsCut n ls) (h3 : Ev t3 σ H (.ref x)) (hx : PT K H x u) (hu : u ∈ ls) : Er (tCall (sp_cut_turned K CC CB) [] E (tCons t1 (tCons t2 (tCons t3 tNil)))) σ H (RLP K (turnC n ls u)) := fun H1 e Q q =>
  h1 H1 e _ fun H2 e2 => h2 H2 (e.trans e2) _ fun v H3 e3 ⟨p, hv, hO⟩ => by
    subst hv
    refine h3 H3 ((e.trans e2).trans e3) _ fun H4 e4 => ⟨n, p, x, ls, u, rfl, hO.lp.mono e4, by have := hC.nat_len; omega, hx.mono (((e.trans e2).trans e3).trans e4), fun z => absurd hC z, fun _ z => absurd hu z, fun m em hC' _ H' r e5 hR => ?_⟩
    have : m = n := by omega
    subst this
    exact q _ H' (((e2.trans e3).trans e4).trans e5) ⟨r, rfl, hR.back ((e2.trans e3).trans e4)⟩
theorem er_filterP {j : Nat} {vs : List Nat} (g : Ln → Bool) (h : Ev tl σ H (.ref a)) (hL : LP K H a ls) (hl : ls.length ≤ 1000) (hw : ∀ x, wipe ((wipe σ vs).set j (some x)) vs = wipe σ vs) (hj : ∀ x, ((wipe σ vs).set j (some x))[j]? = some (some x))
    (ht : ∀ x q H1, Ex H H1 → PT K H1 x q → EvT t ((wipe σ vs).set j (some (.ref x))) H1 (g q)) : Er (tLc (iList K tl) (gName j) t (tVar j) vs) σ H (RLP K (ls.filter g)) := fun H1 e Q q => by
  obtain ⟨as, hA, hP⟩ := id hL
  obtain ⟨z1, z2⟩ := zip_of hP.length
  have hz := paired_zip hP
  generalize as.zip ls = zs at *
  subst z1; subst z2
  have hll := hl
  rw [List.length_map] at hll
  let d : Addr × Ln := (0, (0, 0))
  have hx : ∀ (i : Nat) (x : V), ((zs.map (·.1)).map V.ref)[i]? = some x → zs[i]? = some (zs.getD i d) ∧ x = .ref (zs.getD i d).1 := fun i x hx => by
    rw [List.map_map, List.getElem?_map] at hx
    cases hy : zs[i]? with
    | none => rw [hy] at hx; cases hx
    | some y =>
      rw [hy] at hx
      cases hx
      rw [List.getD_eq_getElem?_getD, hy]
      exact ⟨rfl, rfl⟩
  have hlc := el_lcL (K := K) (te := tVar j) (t := t) (fun i => g (zs.getD i d).2) (fun i => .ref (zs.getD i d).1) h hA (by rw [List.length_map, List.length_map]; omega) hw
    (fun i x G1 g1 hxi => by
      obtain ⟨c1, rfl⟩ := hx i x hxi
      exact ht _ _ G1 g1 ((hz _ (List.mem_of_getElem? c1)).mono g1))
    (fun i x G1 g1 hxi _ => by
      obtain ⟨c1, rfl⟩ := hx i x hxi
      exact ev_var (hj _))
  rw [List.length_map, List.length_map, given_filter d zs (fun z => g z.2) (fun z => .ref z.1)] at hlc
  refine hlc H1 e _ fun b1 H2 hb1 e2 hb1' => q _ H2 e2 ⟨b1, rfl, hb1, (zs.filter fun z => g z.2).map (·.1), by rw [hb1', List.map_map]; rfl, ?_⟩
  have hf : (zs.map (·.2)).filter g = (zs.filter fun z => g z.2).map (·.2) := by rw [List.filter_map]; rfl
  rw [hf]
  exact paired_of_zip fun z hz' => ((hz z (List.mem_filter.mp hz').1).mono (e.trans e2))
theorem ev_kept0 {f : Nat → Nat → Int} {m : Nat} {C : Addr} (hf : FormOf m f) (h1 : Ev t1 σ H (.ref a)) (hM : LLI K H a (Fm m f)) (h2 : Ev t2 σ H (.int 0)) : Ev (tOp (rIxT K) (tCall (sp_kept K C) [] E (tCons t1 tNil)) t2) σ H (.int (detL m f)) :=
  ev_opR1 (er_call mon_RKept (ea_cons h1 ea_nil) (spr_kept hf hM)) h2 fun v G1 G2 g1 g2 ⟨t, p, hv, ht0, ht1, hp⟩ => by
    subst hv
    exact rv_ixT (st_of ht1) (atI_n (i := 0) rfl)
end
section
variable {P : Program} {w : World} {K : Frag} {mg : Str → Option Value} {base : Heap} {k : Nat}
theorem ok_law (T : Txt K mg) (G__law_cell : FnOk P w K mg base CX0 k T.f__law_cell T.d__law_cell ["script", "k"] (sp__law_cell K)) (G__law_cut : FnOk P w K mg base CX0 k T.f__law_cut T.d__law_cut ["script", "k", "corners"] (sp__law_cut K))
    (G_form_of : FnOk P w K mg base (L2.CX P w) k T.f_form_of T.d_form_of ["corners", "lines"] (sp_form_of K T.c_NoCut)) (G_kept : FnOk P w K mg base (L2.CX P w) k T.f_kept T.d_kept ["form"] (sp_kept K T.c_NoForm)) (G__law_copy : FnOk P w K mg base CX0 k T.f__law_copy T.d__law_copy ["form"] (sp__law_copy K))
    (G_cut_turned : FnOk P w K mg base (L2.CX P w) k T.f_cut_turned T.d_cut_turned ["corners", "lines", "line"] (sp_cut_turned K T.c_NoCut T.c_NoBox)) (G__law_renamed : FnOk P w K mg base CX0 k T.f__law_renamed T.d__law_renamed ["form", "names"] (sp__law_renamed K))
    (G_turned : FnOk P w K mg base (L2.CX P w) k T.f_turned T.d_turned ["form", "box"] (sp_turned K T.c_NoForm T.c_NoBox)) (G__law_like : FnOk P w K mg base CX0 k T.f__law_like T.d__law_like ["found", "due"] (sp__law_like K)) : FnOk P w K mg base CX0 (k + 1) T.f_law T.d_law ["script"] (sp_law K) := by
  refine T.F_law.ok sc_law (fun vs H Q E h => ?_) (fun cdv A outer s H vs Q E hr h => ?_)
  · obtain ⟨a, ns, rfl, _⟩ := h
    rfl
  · obtain ⟨a, ns, rfl, hL, hlen, q⟩ := h
    have hL : LI K H a ns := hL
    refine ⟨_, (pss_cons (ps_set (i := 1) sc_law.nd rfl (.inl rfl) (pe_op op_add pe_int (pe_op op_modN (pe_call G__law_cell hr rfl T.m__law_cell T.F__law_cell.kp T.b__law_cell .nil pass0 (pa_cons (pv 0) (pa_cons pe_int pa_nil))) pe_int)))
      (pss_cons (ps_set (i := 2) sc_law.nd rfl (.inr rfl) (pe_call G__law_cut hr rfl T.m__law_cut T.F__law_cut.kp T.b__law_cut .nil pass0 (pa_cons (pv 0) (pa_cons pe_int (pa_cons (pv 1) pa_nil)))))
      (pss_cons (ps_set (i := 3) sc_law.nd rfl (.inl rfl) (pe_call G_form_of hr rfl T.m_form_of T.F_form_of.kp T.b_form_of .nil passL (pa_cons (pv 1) (pa_cons (pe_callTy (listK K) rfl T.b_list (by decide +kernel) (pa_cons (pv 2) pa_nil)) pa_nil))))
      (pss_cons (ps_set (i := 4) sc_law.nd rfl (.inl rfl) (pe_call G_kept hr rfl T.m_kept T.F_kept.kp T.b_kept .nil passL (pa_cons (pe_call G__law_copy hr rfl T.m__law_copy T.F__law_copy.kp T.b__law_copy .nil pass0 (pa_cons (pv 3) pa_nil)) pa_nil)))
      (pss_cons (ps_for PassesOwn.never rfl (pi_range1 rfl T.b_range (pa_cons (pe_callB (lenK K) rfl T.b_len PySem.boot_len (pa_cons (pv 2) pa_nil)) pa_nil)) (pg_name (i := 5) sc_law.nd rfl (.inl rfl))
        (pss_cons (ps_set (i := 6) sc_law.nd rfl (.inr rfl) (pe_call G_cut_turned hr rfl T.m_cut_turned T.F_cut_turned.kp T.b_cut_turned .nil passL (pa_cons (pv 1) (pa_cons (pe_callTy (listK K) rfl T.b_list (by decide +kernel) (pa_cons (pv 2) pa_nil)) (pa_cons (pe_ix (ixL K) (pv 2) (pv 5) (fun _ _ => rfl)) pa_nil)))))
      (pss_cons (ps_set (i := 7) sc_law.nd rfl (.inr rfl) (pe_lc (own := [("line", 11)]) rfl sc_law.nd (pi_listK K (pv 6)) (blkOk_by (own := [("line", 11)]) (N := N_law) (sc := defScope s_law) (by decide +kernel)) (fun _ _ _ _ _ => (pg_name (i := 11) sc_law.nd rfl (.inl rfl))) (fun _ _ _ _ _ => (pts_one (pt_cmpR (ninDK K hr.units65) (pv 11) (pv 2) rfl))) (fun _ _ _ _ _ => (pv 11))))
      (pss_cons (ps_if (PW.pt (pw_or (pt_cmpR op_ne (pe_callB (lenK K) rfl T.b_len PySem.boot_len (pa_cons (pv 7) pa_nil)) pe_int (nomark _)) (pw_or1 (pt_cmpR (neDK K hr.units) (pe_call G_cut_turned hr rfl T.m_cut_turned T.F_cut_turned.kp T.b_cut_turned .nil passL (pa_cons (pv 1) (pa_cons (pe_callTy (listK K) rfl T.b_list (by decide +kernel) (pa_cons (pv 6) pa_nil)) (pa_cons (pe_ix (ixL K) (pv 7) pe_int (fun _ _ => rfl)) pa_nil)))) (pv 2) (nomark _)))))
        (pss_one (ps_ret pe_bl))
        pss_nil)
      (pss_cons (ps_setLc (i := 8) (own := [("line", 11)]) rfl sc_law.nd rfl rfl (sw_true rfl rfl rfl (by decide +kernel)) (pi_listK K (pv 2)) (blkOk_by (own := [("line", 11)]) (N := N_law) (sc := defScope s_law) (by decide +kernel)) (fun _ _ _ _ _ => (pg_name (i := 11) sc_law.nd rfl (.inl rfl))) (fun _ _ _ _ _ => pts_nil) (fun _ _ _ _ _ => (pe_ifExp (pt_cmpR (inDK K hr.units65) (pv 11) (pv 6) rfl) (bmK K PySem.F.plainAttrs_list PySem.F.slot_list_index PySem.F.type_list_index (mt_indexDK K hr.units65) (pv 6) (pa_cons (pv 11) pa_nil)) (bmK K PySem.F.plainAttrs_list PySem.F.slot_list_index PySem.F.type_list_index (mt_indexDK K hr.units65) (pv 6) (pa_cons (pe_ix (ixL K) (pv 7) pe_int (fun _ _ => rfl)) pa_nil)))))
      (pss_cons (ps_set (i := 9) sc_law.nd rfl (.inl rfl) (pe_call G__law_renamed hr rfl T.m__law_renamed T.F__law_renamed.kp T.b__law_renamed .nil pass0 (pa_cons (pe_call G_turned hr rfl T.m_turned T.F_turned.kp T.b_turned .nil passL (pa_cons (pe_call G__law_copy hr rfl T.m__law_copy T.F__law_copy.kp T.b__law_copy .nil pass0 (pa_cons (pv 3) pa_nil)) (pa_cons (pv 5) pa_nil))) (pa_cons (pv 8) pa_nil))))
      (pss_cons (ps_set (i := 10) sc_law.nd rfl (.inl rfl) (pe_call G_form_of hr rfl T.m_form_of T.F_form_of.kp T.b_form_of .nil passL (pa_cons (pv 1) (pa_cons (pe_callTy (listK K) rfl T.b_list (by decide +kernel) (pa_cons (pv 6) pa_nil)) pa_nil))))
      (pss_one (ps_if (PW.pt (pw_or (pt_not (pt_val (pe_call G__law_like hr rfl T.m__law_like T.F__law_like.kp T.b__law_like .nil pass0 (pa_cons (pv 10) (pa_cons (pv 9) pa_nil))))) (pw_or1 (pt_cmpR op_ne (pe_ix (ixT K) (pe_call G_kept hr rfl T.m_kept T.F_kept.kp T.b_kept .nil passL (pa_cons (pv 10) pa_nil)) pe_int (fun _ _ => rfl)) (pe_ix (ixT K) (pv 4) pe_int (fun _ _ => rfl)) (nomark _)))))
        (pss_one (ps_ret pe_bl))
        pss_nil)))))))))
      (pss_one (ps_ret pe_bl))))))), ?_⟩
    obtain ⟨n, hn, hn4, hn9⟩ : ∃ n : Nat, 4 + cellV ns 0 % 6 = (n : Int) ∧ 4 ≤ n ∧ n ≤ 9 := ⟨(4 + cellV ns 0 % 6).toNat, by omega, by omega, by omega⟩
    refine q_asg (v := .int (n : Int)) (ev_cast (ev_op ev_c (ev_mod (ev_cv (j := 0) hL (ea_cons (ev_var rfl) (ea_cons ev_c ea_nil)) (by omega)) ev_c (by decide)) rv_I0) (by rw [hn])) fun H1 e1 => ?_
    refine qr_asg (R := fun H1 H2 v => ∃ ls p, v = .ref p ∧ IsCut (n : Int) ls ∧ OLP K H1 H2 p ls) (fun H2 e2 Q' q' => ⟨.ref a, rfl, .int (n : Int), rfl, a, ns, 2, n, rfl, hL.mono (e1.trans e2), by decide, hn4, hn9, fun ls H' p e hC hO => q' _ H' e ⟨ls, p, rfl, hC, hO⟩⟩) fun v H2 e2 ⟨ls, l, hv, hC, hO⟩ => ?_
    subst hv
    have hnl := hC.nat_len
    have hLl : LP K H2 l ls := hO.lp
    have hf := form_ok hC
    refine qr_asg (er_formofL (CC := T.c_NoCut) (ev_var (v := .int (n : Int)) rfl) (er_listP (ev_var (v := .ref l) rfl) hLl) hC) fun v H3 e3 ⟨p, hv, hOp⟩ => ?_
    subst hv
    have hM3 : LLI K H3 p (Fm ls.length (formF n ls)) := hOp.lli
    refine qr_asg (er_keptR (C := T.c_NoForm) hf (er_copy (ev_var (v := .ref p) rfl) hM3 (by rw [fm_len]; omega))) fun v H4 e4 ⟨tt, pp, hv, htt0, htt1, hpp⟩ => ?_
    subst hv
    have hL4 := (hLl.mono e3).mono e4
    have hM4 := hM3.mono e4
    refine q_forR1 (n := (ls.length : Int)) (ea_cons (ev_lenLP (ev_var (v := .ref l) rfl) hL4) ea_nil) (by omega) (fun i σ' H' => ∃ x5 x6 x7 x8 x9 x10, σ' = [some (.ref a), some (.int (n : Int)), some (.ref l), some (.ref p), some (.ref tt), x5, x6, x7, x8, x9, x10, none] ∧ Ex H4 H') (fun H5 e5 => ⟨_, _, _, _, _, _, rfl, e5⟩) (fun i σ' H5 hi hP => ?_) (fun σ' H5 hP => ?_)
    · obtain ⟨x5, x6, x7, x8, x9, x10, rfl, e5⟩ := hP
      have hil : i < ls.length := by omega
      have hL5 := hL4.mono e5
      obtain ⟨y, hy, hyp⟩ := hL5.gets hil
      obtain ⟨wl, F⟩ := flipL hC hil
      have hum : lnD ls i ∈ ls := by rw [lnD_get hil]; exact List.getElem_mem hil
      refine qr_asg (er_cuttL (CC := T.c_NoCut) (CB := T.c_NoBox) (ev_var (v := .int (n : Int)) rfl) (er_listP (ev_var (v := .ref l) rfl) hL5) hC (ev_op (ev_var (v := .ref l) rfl) (ev_var (v := .int (i : Int)) rfl) hy) hyp hum) fun v H6 e6 ⟨o, hv, hOo⟩ => ?_
      subst hv
      obtain ⟨F1, F2, F3, F4, F5, F6, F7⟩ := F
      generalize turnC n ls (lnD ls i) = other at *
      have hL6 := hL5.mono e6
      have hO6 : LP K H6 o other := hOo.lp
      refine qr_asg (er_filterP (fun l => !decide (l ∈ ls)) (ev_var (v := .ref o) rfl) hO6 (by omega) (fun _ => rfl) (fun _ => rfl) (fun x q' G1 g1 hx => et_test (ev_op (ev_var (v := .ref x) rfl) (ev_var (v := .ref l) rfl) (rv_ninP hx (hL6.mono g1))))) fun v H7 e7 ⟨fr, hv, hOf⟩ => ?_
      subst hv
      rw [F3] at hOf
      have hF7 : LP K H7 fr [wl] := hOf.lp
      have hO7 := hO6.mono e7
      have hL7 := hL6.mono e7
      obtain ⟨z, hz, hzp⟩ := hF7.gets (i := 0) Nat.zero_lt_one
      have hwl : lnD [wl] 0 = wl := rfl
      rw [hwl] at hzp
      refine q_when (b := false) (et_is (et_or (et_test (ev_op (ev_lenLP (ev_var (v := .ref fr) rfl) hF7) ev_c (rv_ne rfl))) fun _ => et_test (ev_opR1 (z := .bl (!decide (turnC n other wl = ls))) (er_cuttL (CC := T.c_NoCut) (CB := T.c_NoBox) (ev_var (v := .int (n : Int)) rfl) (er_listP (ev_var (v := .ref o) rfl) hO7) F1 (ev_op (ev_var (v := .ref fr) rfl) ev_c hz) hzp F4) (ev_var (v := .ref l) rfl) fun v G1 G2 g1 g2 ⟨r, hv, hr⟩ => by
        subst hv
        exact rv_neLP hr.lp (hL7.mono (g1.trans g2)))) (by simp [F5])) (fun hb => nomatch hb) (fun _ H8 e8 => ?_)
      have hL8 := hL7.mono e8
      have hO8 := hO7.mono e8
      have hF8 := hF7.mono e8
      refine q_asgL (xs := (nI (namesOf ls other wl)).map V.int) ?_ fun nm H9 hnm e9 hnm9 => ?_
      · obtain ⟨as, hA, hP⟩ := id hL8
        have hal := hP.length
        have := el_lcL (K := K) (σ := [some (.ref a), some (.int (n : Int)), some (.ref l), some (.ref p), some (.ref tt), some (.int (i : Int)), some (.ref o), some (.ref fr), x8, x9, x10, none]) (H := H8) (tl := tVar 2) (t := tYes) (te := tIf (tTest (tOp (rInD K) (tVar 11) (tVar 6))) (tBM K "list" (rIndexD K) (tVar 6) (tCons (tVar 11) tNil)) (tBM K "list" (rIndexD K) (tVar 6) (tCons (tOp (rIxL K) (tVar 7) (tC (.int 0))) tNil)))
          (j := 11) (vs := [11]) (a := l) (xs := as.map V.ref) (fun _ => true) (fun j => .int (((fun l => if l ∈ other then other.idxOf l else other.idxOf wl) (lnD ls j) : Nat) : Int)) (ev_var rfl) hA (by rw [List.length_map]; omega) (fun _ => rfl) (fun _ _ _ _ _ _ _ Q q => q _ (Ex.refl _)) (fun j x G1 g1 hx _ => by
            rw [List.getElem?_map] at hx
            cases hw : as[j]? with
            | none => rw [hw] at hx; cases hx
            | some y' =>
              rw [hw] at hx
              cases hx
              obtain ⟨u, hu1, hu2⟩ := paired_getL hP hw
              have hlu : lnD ls j = u := by unfold lnD; rw [List.getD_eq_getElem?_getD, hu1]; rfl
              rw [hlu]
              have hu3 := hu2.mono g1
              have hO9 := hO8.mono g1
              obtain ⟨z', hz', hzp'⟩ := (hF8.mono g1).gets (i := 0) Nat.zero_lt_one
              refine ev_if (b := decide (u ∈ other)) (et_test (ev_op (ev_var (v := .ref y') rfl) (ev_var (v := .ref o) rfl) (rv_inP hu3 hO9))) (fun hb => ?_) (fun hb => ?_)
              · rw [decide_eq_true_eq] at hb
                rw [show (fun l => if l ∈ other then other.idxOf l else other.idxOf wl) u = other.idxOf u from if_pos hb]
                exact ev_indexP (ev_var (v := .ref o) rfl) (ev_var (v := .ref y') rfl) hO9 hu3 hb
              · rw [decide_eq_false_iff_not] at hb
                rw [show (fun l => if l ∈ other then other.idxOf l else other.idxOf wl) u = other.idxOf wl from if_neg hb]
                exact ev_indexP (ev_var (v := .ref o) rfl) (ev_op (ev_var (v := .ref fr) rfl) ev_c hz') hO9 hzp' F4)
        rw [List.length_map, hal, given_all] at this
        have e : nI (namesOf ls other wl) = (List.range ls.length).map fun j => (((if lnD ls j ∈ other then other.idxOf (lnD ls j) else other.idxOf wl) : Nat) : Int) := by
          unfold nI namesOf
          rw [List.map_map]
          conv => lhs; rw [list_eq_range (0, 0) ls]
          rw [List.map_map]
          rfl
        rw [e]
        exact this
      · have hN9 : LI K H9 nm (nI (namesOf ls other wl)) := sq_of hnm9
        have e49 := ((((e5.trans e6).trans e7).trans e8).trans e9)
        have hM9 := hM4.mono e49
        refine qr_asg (er_renR (by omega) F6 (er_turnedR (C1 := T.c_NoForm) (C2 := T.c_NoBox) hf hil (er_copy (ev_var (v := .ref p) rfl) hM9 (by rw [fm_len]; omega)) (ev_var (v := .int (i : Int)) rfl)) (ev_var (v := .ref nm) rfl) hN9) fun v H10 e10 ⟨d, hv, hOd⟩ => ?_
        subst hv
        rw [← F7] at hOd
        have hO10 := (hO8.mono e9).mono e10
        have hfo := form_ok F1
        rw [F2] at hfo
        refine qr_asg (er_formofL (CC := T.c_NoCut) (ev_var (v := .int (n : Int)) rfl) (er_listP (ev_var (v := .ref o) rfl) hO10) F1) fun v H11 e11 ⟨th, hv, hOt⟩ => ?_
        subst hv
        rw [F2] at hOt
        have hdet : detL ls.length (formF n other) = detL ls.length (formF n ls) := by
          rw [detL_fm F7, detL_ren _ hnl.2.2.2.2 F6 rfl, detL_turn hnl.2.2.2.2 hf.skew hil]
        have hT11 : LLI K H11 th (Fm ls.length (formF n other)) := hOt.lli
        have htt : H11 tt = some (.tup [.int (detL ls.length (formF n ls)), .ref pp]) := ((e49.trans e10).trans e11) _ _ htt1
        refine s_when (b := false) (et_is (et_or (et_not (et_test (ev_call (ea_cons (ev_var (v := .ref th) rfl) (ea_cons (ev_var (v := .ref d) rfl) ea_nil)) (spv_like hOt.tll (hOd.lli.mono e11) (small_fm (by omega)))))) fun _ => et_test (ev_op (ev_kept0 (C := T.c_NoForm) hfo (ev_var (v := .ref th) rfl) hT11 ev_c) (ev_ixT (i := 0) (ev_var (v := .ref tt) rfl) ev_c htt rfl) (rv_ne rfl))) (by rw [hdet]; simp)) (fun hb => nomatch hb) (fun _ H12 e12 => ⟨_, _, _, _, _, _, rfl, (e49.trans e10).trans (e11.trans e12)⟩)
    · exact s_ret ev_c fun H6 e6 => q H6
end
section
variable {P : Program} {w : World} {K : Frag} {mg : Str → Option Value} {base : Heap}
abbrev LEVEL : Nat := 12
theorem law_ok (T : Txt K mg) : FnOk P w K mg base CX0 LEVEL T.f_law T.d_law ["script"] (sp_law K) := by
  have g1 := ok_line_right (P := P) (w := w) (base := base) (k := 0) T
  have g2 := ok_crossing (P := P) (w := w) (base := base) (k := 0) T
  have g3 := ok_is_cut T g1 g2
  have g4 := ok_must_cut T g3
  have g5 := ok_is_side (P := P) (w := w) (base := base) (k := 0) T
  have g6 := ok_triangles T g5
  have g7 := ok_form_by T g6
  have g8 := ok_form_of (k := 3) T g4 g7
  have g9 := ok_cut_turned (k := 3) T g4 (g6.mono (by decide))
  have h6 := ok__law_cell (P := P) (w := w) (base := base) (k := 0) T
  have h7 := ok__law_cut T h6
  have f1 := ok_is_form (P := P) (w := w) (base := base) (k := 0) T
  have f2 := ok_must_form T f1
  have f3 := ok_determinant (P := P) (w := w) (base := base) (k := 1) T
  have f4 := ok_step_of (P := P) (w := w) (base := base) (k := 1) T
  have f5 := ok_kept T f2 f3 f4
  have f6 := ok_through (P := P) (w := w) (base := base) (k := 0) T
  have f7 := ok_turned_by T f6
  have f8 := ok_turned T f2 f7
  have f9 := ok__law_copy (P := P) (w := w) (base := base) (k := 0) T
  have f10 := ok__law_like (P := P) (w := w) (base := base) (k := 0) T
  have f11 := ok__law_renamed (P := P) (w := w) (base := base) (k := 0) T
  exact (ok_law (k := 6) T (h6.mono (by decide)) (h7.mono (by decide)) (g8.mono (by decide)) (f5.mono (by decide)) (f9.mono (by decide)) (g9.mono (by decide)) (f11.mono (by decide)) (f8.mono (by decide)) (f10.mono (by decide))).mono (by decide)
end
end AT

/-! ### what the top has written; the end -/
namespace AT
open PySem PySem.Spec PyProof.Rows L2 Evl
theorem all_mk {l : PySem.W.OpenLaw} {w : World} {K : Frag} {h : Heap} {mg : Str → Option Value} {fa : Addr} (X : K.In h) (G : h.Ns mainGlobals mg) (hfa : mg "law" = some (.ref fa))
    {f_line_right : Addr} {od_line_right an_line_right : Option Addr} {sl_line_right : Array (Option Value)} {oc_line_right kV_line_right dc_line_right pm_line_right cd_line_right ct_line_right : Value}
    {f_crossing : Addr} {od_crossing an_crossing : Option Addr} {sl_crossing : Array (Option Value)} {oc_crossing kV_crossing dc_crossing pm_crossing cd_crossing ct_crossing : Value}
    {f_is_cut : Addr} {od_is_cut an_is_cut : Option Addr} {sl_is_cut : Array (Option Value)} {oc_is_cut kV_is_cut dc_is_cut pm_is_cut cd_is_cut ct_is_cut : Value}
    {f_must_cut : Addr} {od_must_cut an_must_cut : Option Addr} {sl_must_cut : Array (Option Value)} {oc_must_cut kV_must_cut dc_must_cut pm_must_cut cd_must_cut ct_must_cut : Value}
    {f_is_side : Addr} {od_is_side an_is_side : Option Addr} {sl_is_side : Array (Option Value)} {oc_is_side kV_is_side dc_is_side pm_is_side cd_is_side ct_is_side : Value}
    {f_triangles : Addr} {od_triangles an_triangles : Option Addr} {sl_triangles : Array (Option Value)} {oc_triangles kV_triangles dc_triangles pm_triangles cd_triangles ct_triangles : Value}
    {f_form_by : Addr} {od_form_by an_form_by : Option Addr} {sl_form_by : Array (Option Value)} {oc_form_by kV_form_by dc_form_by pm_form_by cd_form_by ct_form_by : Value}
    {f_form_of : Addr} {od_form_of an_form_of : Option Addr} {sl_form_of : Array (Option Value)} {oc_form_of kV_form_of dc_form_of pm_form_of cd_form_of ct_form_of : Value}
    {f_cut_turned : Addr} {od_cut_turned an_cut_turned : Option Addr} {sl_cut_turned : Array (Option Value)} {oc_cut_turned kV_cut_turned dc_cut_turned pm_cut_turned cd_cut_turned ct_cut_turned : Value}
    {f_is_form : Addr} {od_is_form an_is_form : Option Addr} {sl_is_form : Array (Option Value)} {oc_is_form kV_is_form dc_is_form pm_is_form cd_is_form ct_is_form : Value}
    {f_must_form : Addr} {od_must_form an_must_form : Option Addr} {sl_must_form : Array (Option Value)} {oc_must_form kV_must_form dc_must_form pm_must_form cd_must_form ct_must_form : Value}
    {f_through : Addr} {od_through an_through : Option Addr} {sl_through : Array (Option Value)} {oc_through kV_through dc_through pm_through cd_through ct_through : Value}
    {f_turned_by : Addr} {od_turned_by an_turned_by : Option Addr} {sl_turned_by : Array (Option Value)} {oc_turned_by kV_turned_by dc_turned_by pm_turned_by cd_turned_by ct_turned_by : Value}
    {f_turned : Addr} {od_turned an_turned : Option Addr} {sl_turned : Array (Option Value)} {oc_turned kV_turned dc_turned pm_turned cd_turned ct_turned : Value}
    {f_determinant : Addr} {od_determinant an_determinant : Option Addr} {sl_determinant : Array (Option Value)} {oc_determinant kV_determinant dc_determinant pm_determinant cd_determinant ct_determinant : Value}
    {f_step_of : Addr} {od_step_of an_step_of : Option Addr} {sl_step_of : Array (Option Value)} {oc_step_of kV_step_of dc_step_of pm_step_of cd_step_of ct_step_of : Value}
    {f_kept : Addr} {od_kept an_kept : Option Addr} {sl_kept : Array (Option Value)} {oc_kept kV_kept dc_kept pm_kept cd_kept ct_kept : Value}
    {f__law_cell : Addr} {od__law_cell an__law_cell : Option Addr} {sl__law_cell : Array (Option Value)} {oc__law_cell kV__law_cell dc__law_cell pm__law_cell cd__law_cell ct__law_cell : Value}
    {f__law_copy : Addr} {od__law_copy an__law_copy : Option Addr} {sl__law_copy : Array (Option Value)} {oc__law_copy kV__law_copy dc__law_copy pm__law_copy cd__law_copy ct__law_copy : Value}
    {f__law_like : Addr} {od__law_like an__law_like : Option Addr} {sl__law_like : Array (Option Value)} {oc__law_like kV__law_like dc__law_like pm__law_like cd__law_like ct__law_like : Value}
    {f__law_renamed : Addr} {od__law_renamed an__law_renamed : Option Addr} {sl__law_renamed : Array (Option Value)} {oc__law_renamed kV__law_renamed dc__law_renamed pm__law_renamed cd__law_renamed ct__law_renamed : Value}
    {f__law_cut : Addr} {od__law_cut an__law_cut : Option Addr} {sl__law_cut : Array (Option Value)} {oc__law_cut kV__law_cut dc__law_cut pm__law_cut cd__law_cut ct__law_cut : Value}
    {f_law : Addr} {od_law an_law : Option Addr} {sl_law : Array (Option Value)} {oc_law kV_law dc_law pm_law cd_law ct_law : Value}
    {t_MOST_CORNERS : Tok}
    {t_MOST_BOXES : Tok}
    {t_MOST_ARROWS : Tok}
    {c_TurnError : Addr}
    {c_NoForm : Addr}
    {c_NoBox : Addr}
    {c_NoCut : Addr}
    (a_line_right : PySem.W.nsIn K mainGlobals "line_right" = some (some (.ref f_line_right))) (l_line_right : K.lookup f_line_right = some ⟨oc_line_right, od_line_right, .func (PySem.W.fnOf "line_right" "line_right" (defArgs s_line_right) (defBody s_line_right) (defScope s_line_right) .none kV_line_right dc_line_right pm_line_right an_line_right cd_line_right ct_line_right), sl_line_right⟩) (c_line_right : PySem.W.codeIn K cd_line_right "line_right" = true) (k_line_right : PySem.W.keepIn K (.ref f_line_right) = true)
    (a_crossing : PySem.W.nsIn K mainGlobals "crossing" = some (some (.ref f_crossing))) (l_crossing : K.lookup f_crossing = some ⟨oc_crossing, od_crossing, .func (PySem.W.fnOf "crossing" "crossing" (defArgs s_crossing) (defBody s_crossing) (defScope s_crossing) .none kV_crossing dc_crossing pm_crossing an_crossing cd_crossing ct_crossing), sl_crossing⟩) (c_crossing : PySem.W.codeIn K cd_crossing "crossing" = true) (k_crossing : PySem.W.keepIn K (.ref f_crossing) = true)
    (a_is_cut : PySem.W.nsIn K mainGlobals "is_cut" = some (some (.ref f_is_cut))) (l_is_cut : K.lookup f_is_cut = some ⟨oc_is_cut, od_is_cut, .func (PySem.W.fnOf "is_cut" "is_cut" (defArgs s_is_cut) (defBody s_is_cut) (defScope s_is_cut) .none kV_is_cut dc_is_cut pm_is_cut an_is_cut cd_is_cut ct_is_cut), sl_is_cut⟩) (c_is_cut : PySem.W.codeIn K cd_is_cut "is_cut" = true) (k_is_cut : PySem.W.keepIn K (.ref f_is_cut) = true)
    (a_must_cut : PySem.W.nsIn K mainGlobals "must_cut" = some (some (.ref f_must_cut))) (l_must_cut : K.lookup f_must_cut = some ⟨oc_must_cut, od_must_cut, .func (PySem.W.fnOf "must_cut" "must_cut" (defArgs s_must_cut) (defBody s_must_cut) (defScope s_must_cut) .none kV_must_cut dc_must_cut pm_must_cut an_must_cut cd_must_cut ct_must_cut), sl_must_cut⟩) (c_must_cut : PySem.W.codeIn K cd_must_cut "must_cut" = true) (k_must_cut : PySem.W.keepIn K (.ref f_must_cut) = true)
    (a_is_side : PySem.W.nsIn K mainGlobals "is_side" = some (some (.ref f_is_side))) (l_is_side : K.lookup f_is_side = some ⟨oc_is_side, od_is_side, .func (PySem.W.fnOf "is_side" "is_side" (defArgs s_is_side) (defBody s_is_side) (defScope s_is_side) .none kV_is_side dc_is_side pm_is_side an_is_side cd_is_side ct_is_side), sl_is_side⟩) (c_is_side : PySem.W.codeIn K cd_is_side "is_side" = true) (k_is_side : PySem.W.keepIn K (.ref f_is_side) = true)
    (a_triangles : PySem.W.nsIn K mainGlobals "triangles" = some (some (.ref f_triangles))) (l_triangles : K.lookup f_triangles = some ⟨oc_triangles, od_triangles, .func (PySem.W.fnOf "triangles" "triangles" (defArgs s_triangles) (defBody s_triangles) (defScope s_triangles) .none kV_triangles dc_triangles pm_triangles an_triangles cd_triangles ct_triangles), sl_triangles⟩) (c_triangles : PySem.W.codeIn K cd_triangles "triangles" = true) (k_triangles : PySem.W.keepIn K (.ref f_triangles) = true)
    (a_form_by : PySem.W.nsIn K mainGlobals "form_by" = some (some (.ref f_form_by))) (l_form_by : K.lookup f_form_by = some ⟨oc_form_by, od_form_by, .func (PySem.W.fnOf "form_by" "form_by" (defArgs s_form_by) (defBody s_form_by) (defScope s_form_by) .none kV_form_by dc_form_by pm_form_by an_form_by cd_form_by ct_form_by), sl_form_by⟩) (c_form_by : PySem.W.codeIn K cd_form_by "form_by" = true) (k_form_by : PySem.W.keepIn K (.ref f_form_by) = true)
    (a_form_of : PySem.W.nsIn K mainGlobals "form_of" = some (some (.ref f_form_of))) (l_form_of : K.lookup f_form_of = some ⟨oc_form_of, od_form_of, .func (PySem.W.fnOf "form_of" "form_of" (defArgs s_form_of) (defBody s_form_of) (defScope s_form_of) .none kV_form_of dc_form_of pm_form_of an_form_of cd_form_of ct_form_of), sl_form_of⟩) (c_form_of : PySem.W.codeIn K cd_form_of "form_of" = true) (k_form_of : PySem.W.keepIn K (.ref f_form_of) = true)
    (a_cut_turned : PySem.W.nsIn K mainGlobals "cut_turned" = some (some (.ref f_cut_turned))) (l_cut_turned : K.lookup f_cut_turned = some ⟨oc_cut_turned, od_cut_turned, .func (PySem.W.fnOf "cut_turned" "cut_turned" (defArgs s_cut_turned) (defBody s_cut_turned) (defScope s_cut_turned) .none kV_cut_turned dc_cut_turned pm_cut_turned an_cut_turned cd_cut_turned ct_cut_turned), sl_cut_turned⟩) (c_cut_turned : PySem.W.codeIn K cd_cut_turned "cut_turned" = true) (k_cut_turned : PySem.W.keepIn K (.ref f_cut_turned) = true)
    (a_is_form : PySem.W.nsIn K mainGlobals "is_form" = some (some (.ref f_is_form))) (l_is_form : K.lookup f_is_form = some ⟨oc_is_form, od_is_form, .func (PySem.W.fnOf "is_form" "is_form" (defArgs s_is_form) (defBody s_is_form) (defScope s_is_form) .none kV_is_form dc_is_form pm_is_form an_is_form cd_is_form ct_is_form), sl_is_form⟩) (c_is_form : PySem.W.codeIn K cd_is_form "is_form" = true) (k_is_form : PySem.W.keepIn K (.ref f_is_form) = true)
    (a_must_form : PySem.W.nsIn K mainGlobals "must_form" = some (some (.ref f_must_form))) (l_must_form : K.lookup f_must_form = some ⟨oc_must_form, od_must_form, .func (PySem.W.fnOf "must_form" "must_form" (defArgs s_must_form) (defBody s_must_form) (defScope s_must_form) .none kV_must_form dc_must_form pm_must_form an_must_form cd_must_form ct_must_form), sl_must_form⟩) (c_must_form : PySem.W.codeIn K cd_must_form "must_form" = true) (k_must_form : PySem.W.keepIn K (.ref f_must_form) = true)
    (a_through : PySem.W.nsIn K mainGlobals "through" = some (some (.ref f_through))) (l_through : K.lookup f_through = some ⟨oc_through, od_through, .func (PySem.W.fnOf "through" "through" (defArgs s_through) (defBody s_through) (defScope s_through) .none kV_through dc_through pm_through an_through cd_through ct_through), sl_through⟩) (c_through : PySem.W.codeIn K cd_through "through" = true) (k_through : PySem.W.keepIn K (.ref f_through) = true)
    (a_turned_by : PySem.W.nsIn K mainGlobals "turned_by" = some (some (.ref f_turned_by))) (l_turned_by : K.lookup f_turned_by = some ⟨oc_turned_by, od_turned_by, .func (PySem.W.fnOf "turned_by" "turned_by" (defArgs s_turned_by) (defBody s_turned_by) (defScope s_turned_by) .none kV_turned_by dc_turned_by pm_turned_by an_turned_by cd_turned_by ct_turned_by), sl_turned_by⟩) (c_turned_by : PySem.W.codeIn K cd_turned_by "turned_by" = true) (k_turned_by : PySem.W.keepIn K (.ref f_turned_by) = true)
    (a_turned : PySem.W.nsIn K mainGlobals "turned" = some (some (.ref f_turned))) (l_turned : K.lookup f_turned = some ⟨oc_turned, od_turned, .func (PySem.W.fnOf "turned" "turned" (defArgs s_turned) (defBody s_turned) (defScope s_turned) .none kV_turned dc_turned pm_turned an_turned cd_turned ct_turned), sl_turned⟩) (c_turned : PySem.W.codeIn K cd_turned "turned" = true) (k_turned : PySem.W.keepIn K (.ref f_turned) = true)
    (a_determinant : PySem.W.nsIn K mainGlobals "determinant" = some (some (.ref f_determinant))) (l_determinant : K.lookup f_determinant = some ⟨oc_determinant, od_determinant, .func (PySem.W.fnOf "determinant" "determinant" (defArgs s_determinant) (defBody s_determinant) (defScope s_determinant) .none kV_determinant dc_determinant pm_determinant an_determinant cd_determinant ct_determinant), sl_determinant⟩) (c_determinant : PySem.W.codeIn K cd_determinant "determinant" = true) (k_determinant : PySem.W.keepIn K (.ref f_determinant) = true)
    (a_step_of : PySem.W.nsIn K mainGlobals "step_of" = some (some (.ref f_step_of))) (l_step_of : K.lookup f_step_of = some ⟨oc_step_of, od_step_of, .func (PySem.W.fnOf "step_of" "step_of" (defArgs s_step_of) (defBody s_step_of) (defScope s_step_of) .none kV_step_of dc_step_of pm_step_of an_step_of cd_step_of ct_step_of), sl_step_of⟩) (c_step_of : PySem.W.codeIn K cd_step_of "step_of" = true) (k_step_of : PySem.W.keepIn K (.ref f_step_of) = true)
    (a_kept : PySem.W.nsIn K mainGlobals "kept" = some (some (.ref f_kept))) (l_kept : K.lookup f_kept = some ⟨oc_kept, od_kept, .func (PySem.W.fnOf "kept" "kept" (defArgs s_kept) (defBody s_kept) (defScope s_kept) .none kV_kept dc_kept pm_kept an_kept cd_kept ct_kept), sl_kept⟩) (c_kept : PySem.W.codeIn K cd_kept "kept" = true) (k_kept : PySem.W.keepIn K (.ref f_kept) = true)
    (a__law_cell : PySem.W.nsIn K mainGlobals "_law_cell" = some (some (.ref f__law_cell))) (l__law_cell : K.lookup f__law_cell = some ⟨oc__law_cell, od__law_cell, .func (PySem.W.fnOf "_law_cell" "_law_cell" (defArgs s__law_cell) (defBody s__law_cell) (defScope s__law_cell) .none kV__law_cell dc__law_cell pm__law_cell an__law_cell cd__law_cell ct__law_cell), sl__law_cell⟩) (c__law_cell : PySem.W.codeIn K cd__law_cell "_law_cell" = true) (k__law_cell : PySem.W.keepIn K (.ref f__law_cell) = true)
    (a__law_copy : PySem.W.nsIn K mainGlobals "_law_copy" = some (some (.ref f__law_copy))) (l__law_copy : K.lookup f__law_copy = some ⟨oc__law_copy, od__law_copy, .func (PySem.W.fnOf "_law_copy" "_law_copy" (defArgs s__law_copy) (defBody s__law_copy) (defScope s__law_copy) .none kV__law_copy dc__law_copy pm__law_copy an__law_copy cd__law_copy ct__law_copy), sl__law_copy⟩) (c__law_copy : PySem.W.codeIn K cd__law_copy "_law_copy" = true) (k__law_copy : PySem.W.keepIn K (.ref f__law_copy) = true)
    (a__law_like : PySem.W.nsIn K mainGlobals "_law_like" = some (some (.ref f__law_like))) (l__law_like : K.lookup f__law_like = some ⟨oc__law_like, od__law_like, .func (PySem.W.fnOf "_law_like" "_law_like" (defArgs s__law_like) (defBody s__law_like) (defScope s__law_like) .none kV__law_like dc__law_like pm__law_like an__law_like cd__law_like ct__law_like), sl__law_like⟩) (c__law_like : PySem.W.codeIn K cd__law_like "_law_like" = true) (k__law_like : PySem.W.keepIn K (.ref f__law_like) = true)
    (a__law_renamed : PySem.W.nsIn K mainGlobals "_law_renamed" = some (some (.ref f__law_renamed))) (l__law_renamed : K.lookup f__law_renamed = some ⟨oc__law_renamed, od__law_renamed, .func (PySem.W.fnOf "_law_renamed" "_law_renamed" (defArgs s__law_renamed) (defBody s__law_renamed) (defScope s__law_renamed) .none kV__law_renamed dc__law_renamed pm__law_renamed an__law_renamed cd__law_renamed ct__law_renamed), sl__law_renamed⟩) (c__law_renamed : PySem.W.codeIn K cd__law_renamed "_law_renamed" = true) (k__law_renamed : PySem.W.keepIn K (.ref f__law_renamed) = true)
    (a__law_cut : PySem.W.nsIn K mainGlobals "_law_cut" = some (some (.ref f__law_cut))) (l__law_cut : K.lookup f__law_cut = some ⟨oc__law_cut, od__law_cut, .func (PySem.W.fnOf "_law_cut" "_law_cut" (defArgs s__law_cut) (defBody s__law_cut) (defScope s__law_cut) .none kV__law_cut dc__law_cut pm__law_cut an__law_cut cd__law_cut ct__law_cut), sl__law_cut⟩) (c__law_cut : PySem.W.codeIn K cd__law_cut "_law_cut" = true) (k__law_cut : PySem.W.keepIn K (.ref f__law_cut) = true)
    (a_law : PySem.W.nsIn K mainGlobals "law" = some (some (.ref f_law))) (l_law : K.lookup f_law = some ⟨oc_law, od_law, .func (PySem.W.fnOf "law" "law" (defArgs s_law) (defBody s_law) (defScope s_law) .none kV_law dc_law pm_law an_law cd_law ct_law), sl_law⟩) (c_law : PySem.W.codeIn K cd_law "law" = true) (k_law : PySem.W.keepIn K (.ref f_law) = true)
    (m_MOST_CORNERS : PySem.W.nsIn K mainGlobals "MOST_CORNERS" = some (some (.int 9 t_MOST_CORNERS)))
    (m_MOST_BOXES : PySem.W.nsIn K mainGlobals "MOST_BOXES" = some (some (.int 6 t_MOST_BOXES)))
    (m_MOST_ARROWS : PySem.W.nsIn K mainGlobals "MOST_ARROWS" = some (some (.int 99 t_MOST_ARROWS)))
    (g_TurnError : PySem.W.nsIn K mainGlobals "TurnError" = some (some (.ref c_TurnError)))
    (xxn_TurnError : PySem.W.excIn K c_TurnError [.type "ValueError", .type "Exception", .type "BaseException", .type "object"] "ValueError.__new__" = true)
    (xkp_TurnError : PySem.W.keepIn K (.ref c_TurnError) = true)
    (xbs_TurnError : PySem.W.subIn K (.ref c_TurnError) (.type "BaseException") = some true)
    (xty_TurnError : PySem.W.typeIn K (.ref c_TurnError) = some (.type "type"))
    (xic_TurnError : PySem.W.isClsIn K c_TurnError = true)
    (xhg_TurnError : PySem.W.findIn K (.ref c_TurnError) "__getattribute__" = some (some (.builtin "BaseException.__getattribute__")))
    (xhk_TurnError : PySem.W.findIn K (.ref c_TurnError) "__getattr__" = some none)
    (xhd_TurnError : PySem.W.hasDictIn K c_TurnError = true)
    (xha_TurnError : PySem.W.findIn K (.ref c_TurnError) "__class__" = some (some (.builtin "object.__class__")))
    (xhn_TurnError : PySem.W.specialIn K (.builtin "object.__class__") "__get__" = some (some (.builtin "getset_descriptor.__get__")))
    (xht_TurnError : PySem.W.takesIn K (.builtin "object.__class__") = some true)
    (xhm_TurnError : PySem.W.mroIn K c_TurnError (.type "object") = some true)
    (xvs_TurnError : PySem.W.subIn K (.ref c_TurnError) (.type "ValueError") = some true)
    (g_NoForm : PySem.W.nsIn K mainGlobals "NoForm" = some (some (.ref c_NoForm)))
    (xxn_NoForm : PySem.W.excIn K c_NoForm [.type "ValueError", .type "Exception", .type "BaseException", .type "object"] "ValueError.__new__" = true)
    (xkp_NoForm : PySem.W.keepIn K (.ref c_NoForm) = true)
    (xbs_NoForm : PySem.W.subIn K (.ref c_NoForm) (.type "BaseException") = some true)
    (xty_NoForm : PySem.W.typeIn K (.ref c_NoForm) = some (.type "type"))
    (xic_NoForm : PySem.W.isClsIn K c_NoForm = true)
    (xhg_NoForm : PySem.W.findIn K (.ref c_NoForm) "__getattribute__" = some (some (.builtin "BaseException.__getattribute__")))
    (xhk_NoForm : PySem.W.findIn K (.ref c_NoForm) "__getattr__" = some none)
    (xhd_NoForm : PySem.W.hasDictIn K c_NoForm = true)
    (xha_NoForm : PySem.W.findIn K (.ref c_NoForm) "__class__" = some (some (.builtin "object.__class__")))
    (xhn_NoForm : PySem.W.specialIn K (.builtin "object.__class__") "__get__" = some (some (.builtin "getset_descriptor.__get__")))
    (xht_NoForm : PySem.W.takesIn K (.builtin "object.__class__") = some true)
    (xhm_NoForm : PySem.W.mroIn K c_NoForm (.type "object") = some true)
    (xvs_NoForm : PySem.W.subIn K (.ref c_NoForm) (.type "ValueError") = some true)
    (g_NoBox : PySem.W.nsIn K mainGlobals "NoBox" = some (some (.ref c_NoBox)))
    (xxn_NoBox : PySem.W.excIn K c_NoBox [.type "ValueError", .type "Exception", .type "BaseException", .type "object"] "ValueError.__new__" = true)
    (xkp_NoBox : PySem.W.keepIn K (.ref c_NoBox) = true)
    (xbs_NoBox : PySem.W.subIn K (.ref c_NoBox) (.type "BaseException") = some true)
    (xty_NoBox : PySem.W.typeIn K (.ref c_NoBox) = some (.type "type"))
    (xic_NoBox : PySem.W.isClsIn K c_NoBox = true)
    (xhg_NoBox : PySem.W.findIn K (.ref c_NoBox) "__getattribute__" = some (some (.builtin "BaseException.__getattribute__")))
    (xhk_NoBox : PySem.W.findIn K (.ref c_NoBox) "__getattr__" = some none)
    (xhd_NoBox : PySem.W.hasDictIn K c_NoBox = true)
    (xha_NoBox : PySem.W.findIn K (.ref c_NoBox) "__class__" = some (some (.builtin "object.__class__")))
    (xhn_NoBox : PySem.W.specialIn K (.builtin "object.__class__") "__get__" = some (some (.builtin "getset_descriptor.__get__")))
    (xht_NoBox : PySem.W.takesIn K (.builtin "object.__class__") = some true)
    (xhm_NoBox : PySem.W.mroIn K c_NoBox (.type "object") = some true)
    (xvs_NoBox : PySem.W.subIn K (.ref c_NoBox) (.type "ValueError") = some true)
    (g_NoCut : PySem.W.nsIn K mainGlobals "NoCut" = some (some (.ref c_NoCut)))
    (xxn_NoCut : PySem.W.excIn K c_NoCut [.type "ValueError", .type "Exception", .type "BaseException", .type "object"] "ValueError.__new__" = true)
    (xkp_NoCut : PySem.W.keepIn K (.ref c_NoCut) = true)
    (xbs_NoCut : PySem.W.subIn K (.ref c_NoCut) (.type "BaseException") = some true)
    (xty_NoCut : PySem.W.typeIn K (.ref c_NoCut) = some (.type "type"))
    (xic_NoCut : PySem.W.isClsIn K c_NoCut = true)
    (xhg_NoCut : PySem.W.findIn K (.ref c_NoCut) "__getattribute__" = some (some (.builtin "BaseException.__getattribute__")))
    (xhk_NoCut : PySem.W.findIn K (.ref c_NoCut) "__getattr__" = some none)
    (xhd_NoCut : PySem.W.hasDictIn K c_NoCut = true)
    (xha_NoCut : PySem.W.findIn K (.ref c_NoCut) "__class__" = some (some (.builtin "object.__class__")))
    (xhn_NoCut : PySem.W.specialIn K (.builtin "object.__class__") "__get__" = some (some (.builtin "getset_descriptor.__get__")))
    (xht_NoCut : PySem.W.takesIn K (.builtin "object.__class__") = some true)
    (xhm_NoCut : PySem.W.mroIn K c_NoCut (.type "object") = some true)
    (xvs_NoCut : PySem.W.subIn K (.ref c_NoCut) (.type "ValueError") = some true)
    (u_TurnError_TurnError : PySem.W.subIn K (.ref c_TurnError) (.ref c_TurnError) = some true)
    (u_TurnError_NoForm : PySem.W.subIn K (.ref c_TurnError) (.ref c_NoForm) = some false)
    (u_TurnError_NoBox : PySem.W.subIn K (.ref c_TurnError) (.ref c_NoBox) = some false)
    (u_TurnError_NoCut : PySem.W.subIn K (.ref c_TurnError) (.ref c_NoCut) = some false)
    (u_NoForm_TurnError : PySem.W.subIn K (.ref c_NoForm) (.ref c_TurnError) = some true)
    (u_NoForm_NoForm : PySem.W.subIn K (.ref c_NoForm) (.ref c_NoForm) = some true)
    (u_NoForm_NoBox : PySem.W.subIn K (.ref c_NoForm) (.ref c_NoBox) = some false)
    (u_NoForm_NoCut : PySem.W.subIn K (.ref c_NoForm) (.ref c_NoCut) = some false)
    (u_NoBox_TurnError : PySem.W.subIn K (.ref c_NoBox) (.ref c_TurnError) = some true)
    (u_NoBox_NoForm : PySem.W.subIn K (.ref c_NoBox) (.ref c_NoForm) = some false)
    (u_NoBox_NoBox : PySem.W.subIn K (.ref c_NoBox) (.ref c_NoBox) = some true)
    (u_NoBox_NoCut : PySem.W.subIn K (.ref c_NoBox) (.ref c_NoCut) = some false)
    (u_NoCut_TurnError : PySem.W.subIn K (.ref c_NoCut) (.ref c_TurnError) = some true)
    (u_NoCut_NoForm : PySem.W.subIn K (.ref c_NoCut) (.ref c_NoForm) = some false)
    (u_NoCut_NoBox : PySem.W.subIn K (.ref c_NoCut) (.ref c_NoBox) = some false)
    (u_NoCut_NoCut : PySem.W.subIn K (.ref c_NoCut) (.ref c_NoCut) = some true)
    (b_len : PySem.W.nsIn K mainGlobals "len" = some none)
    (b_range : PySem.W.nsIn K mainGlobals "range" = some none)
    (b_sum : PySem.W.nsIn K mainGlobals "sum" = some none)
    (b_sorted : PySem.W.nsIn K mainGlobals "sorted" = some none)
    (b_max : PySem.W.nsIn K mainGlobals "max" = some none)
    (b_min : PySem.W.nsIn K mainGlobals "min" = some none)
    (b_abs : PySem.W.nsIn K mainGlobals "abs" = some none)
    (b_list : PySem.W.nsIn K mainGlobals "list" = some none)
    (b_zip : PySem.W.nsIn K mainGlobals "zip" = some none)
    (b_isinstance : PySem.W.nsIn K mainGlobals "isinstance" = some none)
    (b_bool : PySem.W.nsIn K mainGlobals "bool" = some none)
    (b_int : PySem.W.nsIn K mainGlobals "int" = some none)
    : ∃ fd : FuncData, (∀ (s : Shared) (v : Value), BindsTo s fd ⟨[v], []⟩ [("script", v)]) ∧ ∀ base : Heap, K.In base → base.Ns mainGlobals mg → FnOk l.prog w K mg base CX0 LEVEL fa fd ["script"] (sp_law K) := by
  have e := hfa.symm.trans (PySem.W.mg_of X G a_law)
  cases e
  let T : Txt K mg := {
    f_line_right := f_line_right, d_line_right := _, F_line_right := fun_mk (st := s_line_right) l_line_right c_line_right k_line_right, m_line_right := PySem.W.mg_of X G a_line_right,
    b_line_right := (fun_mk (st := s_line_right) l_line_right c_line_right k_line_right).binds (ps := ["corners", "line"]) fun _ _ _ _ _ _ us hl => match us, hl with | [_, _], _ => rfl,
    f_crossing := f_crossing, d_crossing := _, F_crossing := fun_mk (st := s_crossing) l_crossing c_crossing k_crossing, m_crossing := PySem.W.mg_of X G a_crossing,
    b_crossing := (fun_mk (st := s_crossing) l_crossing c_crossing k_crossing).binds (ps := ["line", "other"]) fun _ _ _ _ _ _ us hl => match us, hl with | [_, _], _ => rfl,
    f_is_cut := f_is_cut, d_is_cut := _, F_is_cut := fun_mk (st := s_is_cut) l_is_cut c_is_cut k_is_cut, m_is_cut := PySem.W.mg_of X G a_is_cut,
    b_is_cut := (fun_mk (st := s_is_cut) l_is_cut c_is_cut k_is_cut).binds (ps := ["corners", "lines"]) fun _ _ _ _ _ _ us hl => match us, hl with | [_, _], _ => rfl,
    f_must_cut := f_must_cut, d_must_cut := _, F_must_cut := fun_mk (st := s_must_cut) l_must_cut c_must_cut k_must_cut, m_must_cut := PySem.W.mg_of X G a_must_cut,
    b_must_cut := (fun_mk (st := s_must_cut) l_must_cut c_must_cut k_must_cut).binds (ps := ["corners", "lines"]) fun _ _ _ _ _ _ us hl => match us, hl with | [_, _], _ => rfl,
    f_is_side := f_is_side, d_is_side := _, F_is_side := fun_mk (st := s_is_side) l_is_side c_is_side k_is_side, m_is_side := PySem.W.mg_of X G a_is_side,
    b_is_side := (fun_mk (st := s_is_side) l_is_side c_is_side k_is_side).binds (ps := ["corners", "lines", "one", "other"]) fun _ _ _ _ _ _ us hl => match us, hl with | [_, _, _, _], _ => rfl,
    f_triangles := f_triangles, d_triangles := _, F_triangles := fun_mk (st := s_triangles) l_triangles c_triangles k_triangles, m_triangles := PySem.W.mg_of X G a_triangles,
    b_triangles := (fun_mk (st := s_triangles) l_triangles c_triangles k_triangles).binds (ps := ["corners", "lines"]) fun _ _ _ _ _ _ us hl => match us, hl with | [_, _], _ => rfl,
    f_form_by := f_form_by, d_form_by := _, F_form_by := fun_mk (st := s_form_by) l_form_by c_form_by k_form_by, m_form_by := PySem.W.mg_of X G a_form_by,
    b_form_by := (fun_mk (st := s_form_by) l_form_by c_form_by k_form_by).binds (ps := ["corners", "lines"]) fun _ _ _ _ _ _ us hl => match us, hl with | [_, _], _ => rfl,
    f_form_of := f_form_of, d_form_of := _, F_form_of := fun_mk (st := s_form_of) l_form_of c_form_of k_form_of, m_form_of := PySem.W.mg_of X G a_form_of,
    b_form_of := (fun_mk (st := s_form_of) l_form_of c_form_of k_form_of).binds (ps := ["corners", "lines"]) fun _ _ _ _ _ _ us hl => match us, hl with | [_, _], _ => rfl,
    f_cut_turned := f_cut_turned, d_cut_turned := _, F_cut_turned := fun_mk (st := s_cut_turned) l_cut_turned c_cut_turned k_cut_turned, m_cut_turned := PySem.W.mg_of X G a_cut_turned,
    b_cut_turned := (fun_mk (st := s_cut_turned) l_cut_turned c_cut_turned k_cut_turned).binds (ps := ["corners", "lines", "line"]) fun _ _ _ _ _ _ us hl => match us, hl with | [_, _, _], _ => rfl,
    f_is_form := f_is_form, d_is_form := _, F_is_form := fun_mk (st := s_is_form) l_is_form c_is_form k_is_form, m_is_form := PySem.W.mg_of X G a_is_form,
    b_is_form := (fun_mk (st := s_is_form) l_is_form c_is_form k_is_form).binds (ps := ["form"]) fun _ _ _ _ _ _ us hl => match us, hl with | [_], _ => rfl,
    f_must_form := f_must_form, d_must_form := _, F_must_form := fun_mk (st := s_must_form) l_must_form c_must_form k_must_form, m_must_form := PySem.W.mg_of X G a_must_form,
    b_must_form := (fun_mk (st := s_must_form) l_must_form c_must_form k_must_form).binds (ps := ["form"]) fun _ _ _ _ _ _ us hl => match us, hl with | [_], _ => rfl,
    f_through := f_through, d_through := _, F_through := fun_mk (st := s_through) l_through c_through k_through, m_through := PySem.W.mg_of X G a_through,
    b_through := (fun_mk (st := s_through) l_through c_through k_through).binds (ps := ["one", "other"]) fun _ _ _ _ _ _ us hl => match us, hl with | [_, _], _ => rfl,
    f_turned_by := f_turned_by, d_turned_by := _, F_turned_by := fun_mk (st := s_turned_by) l_turned_by c_turned_by k_turned_by, m_turned_by := PySem.W.mg_of X G a_turned_by,
    b_turned_by := (fun_mk (st := s_turned_by) l_turned_by c_turned_by k_turned_by).binds (ps := ["form", "box"]) fun _ _ _ _ _ _ us hl => match us, hl with | [_, _], _ => rfl,
    f_turned := f_turned, d_turned := _, F_turned := fun_mk (st := s_turned) l_turned c_turned k_turned, m_turned := PySem.W.mg_of X G a_turned,
    b_turned := (fun_mk (st := s_turned) l_turned c_turned k_turned).binds (ps := ["form", "box"]) fun _ _ _ _ _ _ us hl => match us, hl with | [_, _], _ => rfl,
    f_determinant := f_determinant, d_determinant := _, F_determinant := fun_mk (st := s_determinant) l_determinant c_determinant k_determinant, m_determinant := PySem.W.mg_of X G a_determinant,
    b_determinant := (fun_mk (st := s_determinant) l_determinant c_determinant k_determinant).binds (ps := ["form"]) fun _ _ _ _ _ _ us hl => match us, hl with | [_], _ => rfl,
    f_step_of := f_step_of, d_step_of := _, F_step_of := fun_mk (st := s_step_of) l_step_of c_step_of k_step_of, m_step_of := PySem.W.mg_of X G a_step_of,
    b_step_of := (fun_mk (st := s_step_of) l_step_of c_step_of k_step_of).binds (ps := ["row"]) fun _ _ _ _ _ _ us hl => match us, hl with | [_], _ => rfl,
    f_kept := f_kept, d_kept := _, F_kept := fun_mk (st := s_kept) l_kept c_kept k_kept, m_kept := PySem.W.mg_of X G a_kept,
    b_kept := (fun_mk (st := s_kept) l_kept c_kept k_kept).binds (ps := ["form"]) fun _ _ _ _ _ _ us hl => match us, hl with | [_], _ => rfl,
    f__law_cell := f__law_cell, d__law_cell := _, F__law_cell := fun_mk (st := s__law_cell) l__law_cell c__law_cell k__law_cell, m__law_cell := PySem.W.mg_of X G a__law_cell,
    b__law_cell := (fun_mk (st := s__law_cell) l__law_cell c__law_cell k__law_cell).binds (ps := ["script", "k"]) fun _ _ _ _ _ _ us hl => match us, hl with | [_, _], _ => rfl,
    f__law_copy := f__law_copy, d__law_copy := _, F__law_copy := fun_mk (st := s__law_copy) l__law_copy c__law_copy k__law_copy, m__law_copy := PySem.W.mg_of X G a__law_copy,
    b__law_copy := (fun_mk (st := s__law_copy) l__law_copy c__law_copy k__law_copy).binds (ps := ["form"]) fun _ _ _ _ _ _ us hl => match us, hl with | [_], _ => rfl,
    f__law_like := f__law_like, d__law_like := _, F__law_like := fun_mk (st := s__law_like) l__law_like c__law_like k__law_like, m__law_like := PySem.W.mg_of X G a__law_like,
    b__law_like := (fun_mk (st := s__law_like) l__law_like c__law_like k__law_like).binds (ps := ["found", "due"]) fun _ _ _ _ _ _ us hl => match us, hl with | [_, _], _ => rfl,
    f__law_renamed := f__law_renamed, d__law_renamed := _, F__law_renamed := fun_mk (st := s__law_renamed) l__law_renamed c__law_renamed k__law_renamed, m__law_renamed := PySem.W.mg_of X G a__law_renamed,
    b__law_renamed := (fun_mk (st := s__law_renamed) l__law_renamed c__law_renamed k__law_renamed).binds (ps := ["form", "names"]) fun _ _ _ _ _ _ us hl => match us, hl with | [_, _], _ => rfl,
    f__law_cut := f__law_cut, d__law_cut := _, F__law_cut := fun_mk (st := s__law_cut) l__law_cut c__law_cut k__law_cut, m__law_cut := PySem.W.mg_of X G a__law_cut,
    b__law_cut := (fun_mk (st := s__law_cut) l__law_cut c__law_cut k__law_cut).binds (ps := ["script", "k", "corners"]) fun _ _ _ _ _ _ us hl => match us, hl with | [_, _, _], _ => rfl,
    f_law := _, d_law := _, F_law := fun_mk (st := s_law) l_law c_law k_law, m_law := PySem.W.mg_of X G a_law,
    b_law := (fun_mk (st := s_law) l_law c_law k_law).binds (ps := ["script"]) fun _ _ _ _ _ _ us hl => match us, hl with | [_], _ => rfl,
    t_MOST_CORNERS := t_MOST_CORNERS, m_MOST_CORNERS := PySem.W.mg_of X G m_MOST_CORNERS,
    t_MOST_BOXES := t_MOST_BOXES, m_MOST_BOXES := PySem.W.mg_of X G m_MOST_BOXES,
    t_MOST_ARROWS := t_MOST_ARROWS, m_MOST_ARROWS := PySem.W.mg_of X G m_MOST_ARROWS,
    c_TurnError := c_TurnError, g_TurnError := PySem.W.mg_of X G g_TurnError, x_TurnError := { g := PySem.W.mg_of X G g_TurnError, xn := xxn_TurnError, kp := xkp_TurnError, bs := xbs_TurnError, ty := xty_TurnError, ic := xic_TurnError, hg := xhg_TurnError, hk := xhk_TurnError, hd := xhd_TurnError, ha := xha_TurnError, hn := xhn_TurnError, ht := xht_TurnError, hm := xhm_TurnError, vs := xvs_TurnError },
    c_NoForm := c_NoForm, g_NoForm := PySem.W.mg_of X G g_NoForm, x_NoForm := { g := PySem.W.mg_of X G g_NoForm, xn := xxn_NoForm, kp := xkp_NoForm, bs := xbs_NoForm, ty := xty_NoForm, ic := xic_NoForm, hg := xhg_NoForm, hk := xhk_NoForm, hd := xhd_NoForm, ha := xha_NoForm, hn := xhn_NoForm, ht := xht_NoForm, hm := xhm_NoForm, vs := xvs_NoForm },
    c_NoBox := c_NoBox, g_NoBox := PySem.W.mg_of X G g_NoBox, x_NoBox := { g := PySem.W.mg_of X G g_NoBox, xn := xxn_NoBox, kp := xkp_NoBox, bs := xbs_NoBox, ty := xty_NoBox, ic := xic_NoBox, hg := xhg_NoBox, hk := xhk_NoBox, hd := xhd_NoBox, ha := xha_NoBox, hn := xhn_NoBox, ht := xht_NoBox, hm := xhm_NoBox, vs := xvs_NoBox },
    c_NoCut := c_NoCut, g_NoCut := PySem.W.mg_of X G g_NoCut, x_NoCut := { g := PySem.W.mg_of X G g_NoCut, xn := xxn_NoCut, kp := xkp_NoCut, bs := xbs_NoCut, ty := xty_NoCut, ic := xic_NoCut, hg := xhg_NoCut, hk := xhk_NoCut, hd := xhd_NoCut, ha := xha_NoCut, hn := xhn_NoCut, ht := xht_NoCut, hm := xhm_NoCut, vs := xvs_NoCut },
    u_TurnError_TurnError := u_TurnError_TurnError,
    u_TurnError_NoForm := u_TurnError_NoForm,
    u_TurnError_NoBox := u_TurnError_NoBox,
    u_TurnError_NoCut := u_TurnError_NoCut,
    u_NoForm_TurnError := u_NoForm_TurnError,
    u_NoForm_NoForm := u_NoForm_NoForm,
    u_NoForm_NoBox := u_NoForm_NoBox,
    u_NoForm_NoCut := u_NoForm_NoCut,
    u_NoBox_TurnError := u_NoBox_TurnError,
    u_NoBox_NoForm := u_NoBox_NoForm,
    u_NoBox_NoBox := u_NoBox_NoBox,
    u_NoBox_NoCut := u_NoBox_NoCut,
    u_NoCut_TurnError := u_NoCut_TurnError,
    u_NoCut_NoForm := u_NoCut_NoForm,
    u_NoCut_NoBox := u_NoCut_NoBox,
    u_NoCut_NoCut := u_NoCut_NoCut,
    b_len := PySem.W.mg_none_of X G b_len,
    b_range := PySem.W.mg_none_of X G b_range,
    b_sum := PySem.W.mg_none_of X G b_sum,
    b_sorted := PySem.W.mg_none_of X G b_sorted,
    b_max := PySem.W.mg_none_of X G b_max,
    b_min := PySem.W.mg_none_of X G b_min,
    b_abs := PySem.W.mg_none_of X G b_abs,
    b_list := PySem.W.mg_none_of X G b_list,
    b_zip := PySem.W.mg_none_of X G b_zip,
    b_isinstance := PySem.W.mg_none_of X G b_isinstance,
    b_bool := PySem.W.mg_none_of X G b_bool,
    b_int := PySem.W.mg_none_of X G b_int }
  exact ⟨PySem.W.fnOf "law" "law" (defArgs s_law) (defBody s_law) (defScope s_law) .none kV_law dc_law pm_law an_law cd_law ct_law, fun s v => .of_eq rfl, fun base _ _ => law_ok T⟩
end AT
open PySem PySem.W PyProof.Rows
set_option maxHeartbeats 0 in
theorem PySem.Challenge.cw_arrowturns_k14_whole_cuts_and_turns_holds : PySem.Challenge.rw_arrowturns_k14_whole_cuts_and_turns.Holds := by
  w_on; o_law; k_head; (case hw => w_witness2)
  k_fill
  refine L2.walk_of (l := PySem.Challenge.rw_arrowturns_k14_whole_cuts_and_turns) (n := 63) (k := AT.LEVEL) (x := "script") (CX := fun _ => L2.CX0) (sp := fun w => AT.sp_law _) rfl (by decide) rfl ⟨rfl, by decide, by decide⟩ (fun w h Y => PySem.W.kIn_of Y) ?F (fun _ _ a ns hl _ hS => ⟨a, ns, rfl, hS, hl, fun _ => rfl⟩) (fun _ _ _ _ _ h => h)
  case F =>
    intro w mg fa h KX G hmg
    refine' AT.all_mk KX G hmg ?a_line_right ?l_line_right ?c_line_right ?k_line_right ?a_crossing ?l_crossing ?c_crossing ?k_crossing ?a_is_cut ?l_is_cut ?c_is_cut ?k_is_cut ?a_must_cut ?l_must_cut ?c_must_cut ?k_must_cut ?a_is_side ?l_is_side ?c_is_side ?k_is_side ?a_triangles ?l_triangles ?c_triangles ?k_triangles ?a_form_by ?l_form_by ?c_form_by ?k_form_by ?a_form_of ?l_form_of ?c_form_of ?k_form_of ?a_cut_turned ?l_cut_turned ?c_cut_turned ?k_cut_turned ?a_is_form ?l_is_form ?c_is_form ?k_is_form ?a_must_form ?l_must_form ?c_must_form ?k_must_form ?a_through ?l_through ?c_through ?k_through ?a_turned_by ?l_turned_by ?c_turned_by ?k_turned_by ?a_turned ?l_turned ?c_turned ?k_turned ?a_determinant ?l_determinant ?c_determinant ?k_determinant ?a_step_of ?l_step_of ?c_step_of ?k_step_of ?a_kept ?l_kept ?c_kept ?k_kept ?a__law_cell ?l__law_cell ?c__law_cell ?k__law_cell ?a__law_copy ?l__law_copy ?c__law_copy ?k__law_copy ?a__law_like ?l__law_like ?c__law_like ?k__law_like ?a__law_renamed ?l__law_renamed ?c__law_renamed ?k__law_renamed ?a__law_cut ?l__law_cut ?c__law_cut ?k__law_cut ?a_law ?l_law ?c_law ?k_law ?m_MOST_CORNERS ?m_MOST_BOXES ?m_MOST_ARROWS ?g_TurnError ?xxn_TurnError ?xkp_TurnError ?xbs_TurnError ?xty_TurnError ?xic_TurnError ?xhg_TurnError ?xhk_TurnError ?xhd_TurnError ?xha_TurnError ?xhn_TurnError ?xht_TurnError ?xhm_TurnError ?xvs_TurnError ?g_NoForm ?xxn_NoForm ?xkp_NoForm ?xbs_NoForm ?xty_NoForm ?xic_NoForm ?xhg_NoForm ?xhk_NoForm ?xhd_NoForm ?xha_NoForm ?xhn_NoForm ?xht_NoForm ?xhm_NoForm ?xvs_NoForm ?g_NoBox ?xxn_NoBox ?xkp_NoBox ?xbs_NoBox ?xty_NoBox ?xic_NoBox ?xhg_NoBox ?xhk_NoBox ?xhd_NoBox ?xha_NoBox ?xhn_NoBox ?xht_NoBox ?xhm_NoBox ?xvs_NoBox ?g_NoCut ?xxn_NoCut ?xkp_NoCut ?xbs_NoCut ?xty_NoCut ?xic_NoCut ?xhg_NoCut ?xhk_NoCut ?xhd_NoCut ?xha_NoCut ?xhn_NoCut ?xht_NoCut ?xhm_NoCut ?xvs_NoCut ?u_TurnError_TurnError ?u_TurnError_NoForm ?u_TurnError_NoBox ?u_TurnError_NoCut ?u_NoForm_TurnError ?u_NoForm_NoForm ?u_NoForm_NoBox ?u_NoForm_NoCut ?u_NoBox_TurnError ?u_NoBox_NoForm ?u_NoBox_NoBox ?u_NoBox_NoCut ?u_NoCut_TurnError ?u_NoCut_NoForm ?u_NoCut_NoBox ?u_NoCut_NoCut ?b_len ?b_range ?b_sum ?b_sorted ?b_max ?b_min ?b_abs ?b_list ?b_zip ?b_isinstance ?b_bool ?b_int
    (case a_line_right => k_is)
    (case l_line_right => k_is)
    (case c_line_right => k_is)
    (case k_line_right => k_is)
    (case a_crossing => k_is)
    (case l_crossing => k_is)
    (case c_crossing => k_is)
    (case k_crossing => k_is)
    (case a_is_cut => k_is)
    (case l_is_cut => k_is)
    (case c_is_cut => k_is)
    (case k_is_cut => k_is)
    (case a_must_cut => k_is)
    (case l_must_cut => k_is)
    (case c_must_cut => k_is)
    (case k_must_cut => k_is)
    (case a_is_side => k_is)
    (case l_is_side => k_is)
    (case c_is_side => k_is)
    (case k_is_side => k_is)
    (case a_triangles => k_is)
    (case l_triangles => k_is)
    (case c_triangles => k_is)
    (case k_triangles => k_is)
    (case a_form_by => k_is)
    (case l_form_by => k_is)
    (case c_form_by => k_is)
    (case k_form_by => k_is)
    (case a_form_of => k_is)
    (case l_form_of => k_is)
    (case c_form_of => k_is)
    (case k_form_of => k_is)
    (case a_cut_turned => k_is)
    (case l_cut_turned => k_is)
    (case c_cut_turned => k_is)
    (case k_cut_turned => k_is)
    (case a_is_form => k_is)
    (case l_is_form => k_is)
    (case c_is_form => k_is)
    (case k_is_form => k_is)
    (case a_must_form => k_is)
    (case l_must_form => k_is)
    (case c_must_form => k_is)
    (case k_must_form => k_is)
    (case a_through => k_is)
    (case l_through => k_is)
    (case c_through => k_is)
    (case k_through => k_is)
    (case a_turned_by => k_is)
    (case l_turned_by => k_is)
    (case c_turned_by => k_is)
    (case k_turned_by => k_is)
    (case a_turned => k_is)
    (case l_turned => k_is)
    (case c_turned => k_is)
    (case k_turned => k_is)
    (case a_determinant => k_is)
    (case l_determinant => k_is)
    (case c_determinant => k_is)
    (case k_determinant => k_is)
    (case a_step_of => k_is)
    (case l_step_of => k_is)
    (case c_step_of => k_is)
    (case k_step_of => k_is)
    (case a_kept => k_is)
    (case l_kept => k_is)
    (case c_kept => k_is)
    (case k_kept => k_is)
    (case a__law_cell => k_is)
    (case l__law_cell => k_is)
    (case c__law_cell => k_is)
    (case k__law_cell => k_is)
    (case a__law_copy => k_is)
    (case l__law_copy => k_is)
    (case c__law_copy => k_is)
    (case k__law_copy => k_is)
    (case a__law_like => k_is)
    (case l__law_like => k_is)
    (case c__law_like => k_is)
    (case k__law_like => k_is)
    (case a__law_renamed => k_is)
    (case l__law_renamed => k_is)
    (case c__law_renamed => k_is)
    (case k__law_renamed => k_is)
    (case a__law_cut => k_is)
    (case l__law_cut => k_is)
    (case c__law_cut => k_is)
    (case k__law_cut => k_is)
    (case a_law => k_is)
    (case l_law => k_is)
    (case c_law => k_is)
    (case k_law => k_is)
    (case m_MOST_CORNERS => k_is)
    (case m_MOST_BOXES => k_is)
    (case m_MOST_ARROWS => k_is)
    (case g_TurnError => k_is)
    (case xxn_TurnError => k_exc)
    (case xkp_TurnError => k_is)
    (case xbs_TurnError => k_is)
    (case xty_TurnError => k_is)
    (case xic_TurnError => k_is)
    (case xhg_TurnError => k_is)
    (case xhk_TurnError => k_is)
    (case xhd_TurnError => k_is)
    (case xha_TurnError => k_is)
    (case xhn_TurnError => k_is)
    (case xht_TurnError => k_is)
    (case xhm_TurnError => k_is)
    (case xvs_TurnError => k_is)
    (case g_NoForm => k_is)
    (case xxn_NoForm => k_exc)
    (case xkp_NoForm => k_is)
    (case xbs_NoForm => k_is)
    (case xty_NoForm => k_is)
    (case xic_NoForm => k_is)
    (case xhg_NoForm => k_is)
    (case xhk_NoForm => k_is)
    (case xhd_NoForm => k_is)
    (case xha_NoForm => k_is)
    (case xhn_NoForm => k_is)
    (case xht_NoForm => k_is)
    (case xhm_NoForm => k_is)
    (case xvs_NoForm => k_is)
    (case g_NoBox => k_is)
    (case xxn_NoBox => k_exc)
    (case xkp_NoBox => k_is)
    (case xbs_NoBox => k_is)
    (case xty_NoBox => k_is)
    (case xic_NoBox => k_is)
    (case xhg_NoBox => k_is)
    (case xhk_NoBox => k_is)
    (case xhd_NoBox => k_is)
    (case xha_NoBox => k_is)
    (case xhn_NoBox => k_is)
    (case xht_NoBox => k_is)
    (case xhm_NoBox => k_is)
    (case xvs_NoBox => k_is)
    (case g_NoCut => k_is)
    (case xxn_NoCut => k_exc)
    (case xkp_NoCut => k_is)
    (case xbs_NoCut => k_is)
    (case xty_NoCut => k_is)
    (case xic_NoCut => k_is)
    (case xhg_NoCut => k_is)
    (case xhk_NoCut => k_is)
    (case xhd_NoCut => k_is)
    (case xha_NoCut => k_is)
    (case xhn_NoCut => k_is)
    (case xht_NoCut => k_is)
    (case xhm_NoCut => k_is)
    (case xvs_NoCut => k_is)
    (case u_TurnError_TurnError => k_is)
    (case u_TurnError_NoForm => k_is)
    (case u_TurnError_NoBox => k_is)
    (case u_TurnError_NoCut => k_is)
    (case u_NoForm_TurnError => k_is)
    (case u_NoForm_NoForm => k_is)
    (case u_NoForm_NoBox => k_is)
    (case u_NoForm_NoCut => k_is)
    (case u_NoBox_TurnError => k_is)
    (case u_NoBox_NoForm => k_is)
    (case u_NoBox_NoBox => k_is)
    (case u_NoBox_NoCut => k_is)
    (case u_NoCut_TurnError => k_is)
    (case u_NoCut_NoForm => k_is)
    (case u_NoCut_NoBox => k_is)
    (case u_NoCut_NoCut => k_is)
    (case b_len => k_is)
    (case b_range => k_is)
    (case b_sum => k_is)
    (case b_sorted => k_is)
    (case b_max => k_is)
    (case b_min => k_is)
    (case b_abs => k_is)
    (case b_list => k_is)
    (case b_zip => k_is)
    (case b_isinstance => k_is)
    (case b_bool => k_is)
    (case b_int => k_is)

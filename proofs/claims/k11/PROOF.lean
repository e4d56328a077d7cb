import PyProof.Rows.All
import Wide.All
import OpenK.AllK
import Wide.FinOn
import PyProof.EqAt
import PyProof.EqKinds
import PyProof.TupleCall
import PySem.Challenge.RW_arrowturns_k11_whole_the_reach_is_shut
import HandS.ForMost
import HandS.Evl
import HandS.Exc
import HandS.ExcOwn
import HandS.TryOnly
import HandS.WordsExc
import HandS.IsInst
import HandS.ExcIs
import HandS.HotCalls
import HandS.Wide
import HandS.Zip
import HandS.Conv
import HandS.More
import HandS.Style
import HandS.Deep
import HandS.Walk
import KE.DatumOrd
import KE.DataCmp
import KE.DataMinMax
import KE.SortData
import KE.KTupSum
import KE.SortCalls
import KE.KDictSum
import KE.KDictCopyH
import KE.KDictKeyed
import KE.KeyNested
set_option Elab.async false
set_option linter.all false
set_option maxRecDepth 100000
set_option maxHeartbeats 4000000

/-! ## the layer of these proofs: lists of lists, what a reading tells of them -/
namespace AT
open PySem PySem.Spec PyProof.Rows L2 Evl
abbrev St := L2.St
abbrev Frag := PySem.W.Frag

theorem bfF {p : Prop} (h : ¬ p) : (false = true ↔ p) := ⟨fun z => (Bool.false_ne_true z).elim, fun z => (h z).elim⟩
theorem bfT {p : Prop} (h : p) : (true = true ↔ p) := ⟨fun _ => h, fun _ => rfl⟩
/-- whether p holds -/
noncomputable def dec (p : Prop) : Bool := @decide p (Classical.propDecidable p)
theorem dec_eq {b : Bool} {p : Prop} (h : b = true ↔ p) : b = dec p := by
  unfold dec
  cases b with
  | true => exact (@decide_eq_true p (Classical.propDecidable p) (h.mp rfl)).symm
  | false => exact (@decide_eq_false p (Classical.propDecidable p) fun z => Bool.false_ne_true (h.mpr z)).symm
theorem dec_true {p : Prop} (h : p) : dec p = true := (dec_eq (bfT h)).symm
theorem dec_false {p : Prop} (h : ¬ p) : dec p = false := (dec_eq (bfF h)).symm
theorem of_dec {p : Prop} (h : dec p = true) : p := Classical.byContradiction fun z => by
  rw [dec_false z] at h
  exact Bool.false_ne_true h
theorem of_dec_f {p : Prop} (h : dec p = false) : ¬ p := fun z => by
  rw [dec_true z] at h
  exact Bool.noConfusion h
/-! ### lists of ints, of lists of ints -/
def LI (K : Frag) (H : Hp) (a : Addr) (xs : List Int) : Prop := SqL K H a (xs.map V.int)
def LLI (K : Frag) (H : Hp) (a : Addr) (M : List (List Int)) : Prop := ∃ as : List Addr, SqL K H a (as.map V.ref) ∧ Paired (fun x r => LI K H x r) as M
/-- of our own making: behind H0 -/
def OLI (H0 H : Hp) (a : Addr) (xs : List Int) : Prop := H0 a = none ∧ H a = some (.lst (xs.map V.int))
def OLLI (H0 H : Hp) (a : Addr) (M : List (List Int)) : Prop := ∃ as : List Addr, H0 a = none ∧ H a = some (.lst (as.map V.ref)) ∧ (a :: as).Nodup ∧ Paired (fun x r => OLI H0 H x r) as M

theorem paired_mono {α β : Type} {F G : α → β → Prop} : ∀ {l₁ : List α} {l₂ : List β}, Paired F l₁ l₂ → (∀ a b, F a b → G a b) → Paired G l₁ l₂
  | _, _, .nil, _ => .nil
  | _, _, .cons r t, f => .cons (f _ _ r) (paired_mono t f)
theorem paired_mem_mono {α β : Type} {F G : α → β → Prop} : ∀ {l₁ : List α} {l₂ : List β}, Paired F l₁ l₂ → (∀ a b, a ∈ l₁ → F a b → G a b) → Paired G l₁ l₂
  | _, _, .nil, _ => .nil
  | _, _, .cons r t, f => .cons (f _ _ List.mem_cons_self r) (paired_mem_mono t fun a b h => f a b (List.mem_cons_of_mem _ h))
theorem paired_get {α β : Type} {F : α → β → Prop} : ∀ {l₁ : List α} {l₂ : List β} {i : Nat} {y : β}, Paired F l₁ l₂ → l₂[i]? = some y → ∃ x, l₁[i]? = some x ∧ F x y
  | _, _, _, _, .nil, e => by simp at e
  | _, _, 0, _, .cons r _, e => by simp at e; subst e; exact ⟨_, rfl, r⟩
  | _, _, i + 1, y, .cons _ t, e => by
    obtain ⟨u, h1, h2⟩ := paired_get (i := i) (y := y) t (by simpa using e)
    exact ⟨u, by simpa using h1, h2⟩
theorem paired_getL {α β : Type} {F : α → β → Prop} : ∀ {l₁ : List α} {l₂ : List β} {i : Nat} {x : α}, Paired F l₁ l₂ → l₁[i]? = some x → ∃ y, l₂[i]? = some y ∧ F x y
  | _, _, _, _, .nil, e => by simp at e
  | _, _, 0, _, .cons r _, e => by simp at e; subst e; exact ⟨_, rfl, r⟩
  | _, _, i + 1, y, .cons _ t, e => by
    obtain ⟨u, h1, h2⟩ := paired_getL (i := i) (x := y) t (by simpa using e)
    exact ⟨u, by simpa using h1, h2⟩
theorem paired_append {α β : Type} {F : α → β → Prop} : ∀ {l₁ k₁ : List α} {l₂ k₂ : List β}, Paired F l₁ l₂ → Paired F k₁ k₂ → Paired F (l₁ ++ k₁) (l₂ ++ k₂)
  | _, _, _, _, .nil, h => h
  | _, _, _, _, .cons r t, h => .cons r (paired_append t h)
theorem paired_mem {α β : Type} {F : α → β → Prop} : ∀ {l₁ : List α} {l₂ : List β} {x : α}, Paired F l₁ l₂ → x ∈ l₁ → ∃ y, y ∈ l₂ ∧ F x y
  | _, _, _, .nil, e => by cases e
  | _, _, _, .cons r t, e => by
    rcases List.mem_cons.mp e with rfl | e
    · exact ⟨_, List.mem_cons_self, r⟩
    · obtain ⟨y, h1, h2⟩ := paired_mem t e
      exact ⟨y, List.mem_cons_of_mem _ h1, h2⟩
theorem paired_of {α β : Type} {F : α → β → Prop} : ∀ {l₁ : List α} {l₂ : List β}, l₁.length = l₂.length → (∀ (i : Nat) x y, l₁[i]? = some x → l₂[i]? = some y → F x y) → Paired F l₁ l₂
  | [], [], _, _ => .nil
  | [], _ :: _, h, _ => by simp at h
  | _ :: _, [], h, _ => by simp at h
  | a :: l₁, b :: l₂, h, f => .cons (f 0 a b rfl rfl) (paired_of (by simpa using h) fun i x y h1 h2 => f (i + 1) x y (by simpa using h1) (by simpa using h2))
theorem paired_set {α β : Type} {F : α → β → Prop} {x : α} {y : β} (r : F x y) : ∀ {l₁ : List α} {l₂ : List β} (i : Nat), Paired F l₁ l₂ → Paired F (l₁.set i x) (l₂.set i y)
  | _, _, _, .nil => .nil
  | _, _, 0, .cons _ t => .cons r t
  | _, _, i + 1, .cons q t => .cons q (paired_set r i t)
theorem paired_drop {α β : Type} {F : α → β → Prop} : ∀ {l₁ : List α} {l₂ : List β} (n : Nat), Paired F l₁ l₂ → Paired F (l₁.drop n) (l₂.drop n)
  | _, _, 0, r => r
  | _, _, _ + 1, .nil => .nil
  | _, _, n + 1, .cons _ t => paired_drop n t
theorem paired_dropLast {α β : Type} {F : α → β → Prop} : ∀ {l₁ : List α} {l₂ : List β}, Paired F l₁ l₂ → Paired F l₁.dropLast l₂.dropLast
  | _, _, .nil => .nil
  | _, _, .cons _ .nil => .nil
  | _, _, .cons r (.cons q t) => .cons r (paired_dropLast (.cons q t))
theorem paired_map {α β γ δ : Type} {F : γ → δ → Prop} {f : α → γ} {g : β → δ} {G : α → β → Prop} (h : ∀ a b, G a b → F (f a) (g b)) : ∀ {l₁ : List α} {l₂ : List β}, Paired G l₁ l₂ → Paired F (l₁.map f) (l₂.map g)
  | _, _, .nil => .nil
  | _, _, .cons r t => .cons (h _ _ r) (paired_map h t)

section
variable {K : Frag} {H H0 H1 H' : Hp} {a p r : Addr} {M : List (List Int)} {xs : List Int}
theorem LI.mono (e : Ex H H') (h : LI K H a xs) : LI K H' a xs := ex_l e h
theorem LLI.mono (e : Ex H H') (h : LLI K H a M) : LLI K H' a M := by
  obtain ⟨as, h1, h2⟩ := h
  exact ⟨as, ex_l e h1, paired_mono h2 fun _ _ q => q.mono e⟩
theorem OLI.li (h : OLI H0 H a xs) : LI K H a xs := sq_of h.2
theorem OLLI.lli (h : OLLI H0 H a M) : LLI K H a M := by
  obtain ⟨as, _, h1, _, h2⟩ := h
  exact ⟨as, sq_of h1, paired_mono h2 fun _ _ q => q.li⟩
theorem OLI.mono (e : Ex H H') (h : OLI H0 H a xs) : OLI H0 H' a xs := ⟨h.1, e _ _ h.2⟩
theorem OLLI.mono (e : Ex H H') (h : OLLI H0 H a M) : OLLI H0 H' a M := by
  obtain ⟨as, h0, h1, hn, h2⟩ := h
  exact ⟨as, h0, e _ _ h1, hn, paired_mono h2 fun _ _ q => q.mono e⟩
/-- fresh ahead of more is fresh ahead of less -/
theorem OLI.back (e : Ex H0 H1) (h : OLI H1 H a xs) : OLI H0 H a xs := ⟨fresh_back e h.1, h.2⟩
theorem OLLI.back (e : Ex H0 H1) (h : OLLI H1 H a M) : OLLI H0 H a M := by
  obtain ⟨as, h0, h1, hn, h2⟩ := h
  exact ⟨as, fresh_back e h0, h1, hn, paired_mono h2 fun _ _ q => q.back e⟩
theorem OLLI.fresh (h : OLLI H0 H a M) : H0 a = none := by
  obtain ⟨as, h0, _⟩ := h
  exact h0
theorem OLLI.nil (h0 : H0 a = none) (h : H a = some (.lst [])) : OLLI H0 H a [] := ⟨[], h0, h, by simp, .nil⟩
/-- a row made behind Hb goes to the end -/
theorem OLLI.push {Hb Hc : Hp} {row : List Int} (h : OLLI H0 Hb p M) (e0 : Ex H0 Hb) (e : Ex Hb Hc) (hr : Hb r = none) (hrow : Hc r = some (.lst (row.map V.int))) :
    ∃ vs : List V, Hc p = some (.lst vs) ∧ vs.length = M.length ∧ OLLI H0 (upd Hc p (.lst (vs ++ [.ref r]))) p (M ++ [row]) ∧ Ex H0 (upd Hc p (.lst (vs ++ [.ref r]))) := by
  obtain ⟨as, h0, h1, hn, h2⟩ := h
  have hpr : p ≠ r := ne_of_none h1 hr
  have hnr : r ∉ as := fun hm => by
    obtain ⟨y, _, q⟩ := paired_mem h2 hm
    have := q.2
    rw [hr] at this; cases this
  rw [List.nodup_cons] at hn
  refine ⟨as.map V.ref, e _ _ h1, by rw [List.length_map, h2.length], ⟨as ++ [r], h0, ?_, ?_, paired_append (paired_mem_mono h2 fun x y hx q => ⟨q.1, ?_⟩) (.cons ⟨fresh_back e0 hr, ?_⟩ .nil)⟩, Ex.mut (e0.trans e) h0⟩
  · rw [upd_same, List.map_append]; rfl
  · rw [List.nodup_cons]
    refine ⟨fun hm => ?_, ?_⟩
    · rcases List.mem_append.mp hm with hm | hm
      · exact hn.1 hm
      · exact hpr (by simpa using hm)
    · rw [List.nodup_append]
      exact ⟨hn.2, by simp, fun x hx y hy => by
        have : y = r := by simpa using hy
        subst this
        exact fun z => hnr (z ▸ hx)⟩
  · rw [upd_ne (fun z : x = p => hn.1 (z ▸ hx))]; exact e _ _ q.2
  · rw [upd_ne hpr.symm]; exact hrow
end

/-! ### forms: n boxes, f their numbers -/
def Fm (n : Nat) (f : Nat → Nat → Int) : List (List Int) := (List.range n).map fun i => (List.range n).map (f i)
theorem range_get {n i : Nat} (h : i < n) : (List.range n)[i]? = some i := by rw [List.getElem?_range h]
theorem mapr_get {α : Type} {n i : Nat} {f : Nat → α} (h : i < n) : ((List.range n).map f)[i]? = some (f i) := by rw [List.getElem?_map, range_get h]; rfl
theorem fm_get {n i : Nat} {f : Nat → Nat → Int} (h : i < n) : (Fm n f)[i]? = some ((List.range n).map (f i)) := mapr_get h
theorem fm_len {n : Nat} {f : Nat → Nat → Int} : (Fm n f).length = n := by unfold Fm; rw [List.length_map, List.length_range]
theorem mapr_ext {α : Type} {n : Nat} {f g : Nat → α} (h : ∀ i, i < n → f i = g i) : (List.range n).map f = (List.range n).map g := List.map_congr_left fun i hi => h i (List.mem_range.mp hi)
theorem fm_ext {n : Nat} {f g : Nat → Nat → Int} (h : ∀ i j, i < n → j < n → f i j = g i j) : Fm n f = Fm n g := mapr_ext fun i hi => mapr_ext fun j hj => h i j hi hj
theorem mapr_inj {α : Type} {n m : Nat} {f g : Nat → α} (h : (List.range n).map f = (List.range m).map g) : n = m ∧ ∀ i, i < n → f i = g i := by
  have e : n = m := by simpa using congrArg List.length h
  subst e
  refine ⟨rfl, fun i hi => ?_⟩
  have := congrArg (·[i]?) h
  simp only [mapr_get hi] at this
  exact Option.some.inj this
theorem fm_inj {n m : Nat} {f g : Nat → Nat → Int} (h : Fm n f = Fm m g) : n = m ∧ ∀ i j, i < n → j < n → f i j = g i j := by
  obtain ⟨e, q⟩ := mapr_inj h
  exact ⟨e, fun i j hi hj => (mapr_inj (q i hi)).2 j hj⟩

section
variable {K : Frag} {σ : St} {H H0 H1 H' : Hp} {ta tb te ti tj : TE} {a p r : Addr} {M : List (List Int)} {xs : List Int} {x y z v : V}
theorem LLI.row (h : LLI K H a M) {i : Nat} {row : List Int} (e : M[i]? = some row) : ∃ (as : List Addr) (x : Addr), SqL K H a (as.map V.ref) ∧ as.length = M.length ∧ as[i]? = some x ∧ LI K H x row := by
  obtain ⟨as, h1, h2⟩ := h
  obtain ⟨x, e1, q⟩ := paired_get h2 e
  exact ⟨as, x, h1, h2.length, e1, q⟩
theorem atI_n {α : Type} {xs : List α} {i : Nat} {v : α} (h : xs[i]? = some v) : atI xs (i : Int) = some v := by
  unfold atI
  rw [ixN_nat (List.getElem?_eq_some_iff.mp h).1]
  exact h
theorem LI.at {i : Nat} {v : Int} (h : LI K H a xs) (e : xs[i]? = some v) : RV (rIxL K) (.ref a) (.int (i : Int)) H (.int v) := rv_ixL h (atI_n (by rw [List.getElem?_map, e]; rfl))
theorem ev_item {i : Nat} {v : Int} (ha : Ev ta σ H (.ref a)) (hi : Ev ti σ H (.int (i : Int))) (h : LI K H a xs) (e : xs[i]? = some v) : Ev (tOp (rIxL K) ta ti) σ H (.int v) := ev_op ha hi (h.at e)
theorem ev_cell {i j : Nat} {row : List Int} {v : Int} (ha : Ev ta σ H (.ref a)) (hi : Ev ti σ H (.int (i : Int))) (hj : Ev tj σ H (.int (j : Int))) (h : LLI K H a M) (e1 : M[i]? = some row) (e2 : row[j]? = some v) :
    Ev (tOp (rIxL K) (tOp (rIxL K) ta ti) tj) σ H (.int v) := by
  obtain ⟨as, x, h1, _, h3, h4⟩ := h.row e1
  exact ev_op (ev_op ha hi (rv_ixL h1 (atI_n (by rw [List.getElem?_map, h3]; rfl)))) hj (h4.at e2)
theorem ev_fm {n i j : Nat} {f : Nat → Nat → Int} (ha : Ev ta σ H (.ref a)) (hi : Ev ti σ H (.int (i : Int))) (hj : Ev tj σ H (.int (j : Int))) (h : LLI K H a (Fm n f)) (e1 : i < n) (e2 : j < n) :
    Ev (tOp (rIxL K) (tOp (rIxL K) ta ti) tj) σ H (.int (f i j)) := ev_cell ha hi hj h (fm_get e1) (mapr_get e2)
theorem ev_mod {i j : Int} (ha : Ev ta σ H (.int i)) (hb : Ev tb σ H (.int j)) (hj : 0 < j) : Ev (tOp (rI (fun _ j => j ≠ 0) fun i j => .int (i.fmod j)) ta tb) σ H (.int (i % j)) :=
  ev_op ha hb (by rw [← Int.fmod_eq_emod_of_nonneg i (Int.le_of_lt hj)]; exact rv_I (by omega))
theorem ev_div {i j : Int} (ha : Ev ta σ H (.int i)) (hb : Ev tb σ H (.int j)) (hj : 0 < j) (h2 : j < 1073741824) : Ev (tOp (rI CDivN fun i j => .int (i.fdiv j)) ta tb) σ H (.int (i / j)) :=
  ev_op ha hb (by rw [← Int.fdiv_eq_ediv_of_nonneg i (Int.le_of_lt hj)]; exact rv_I ⟨by omega, by omega⟩)
theorem ev_len1 {vs : List V} {r : List V → Hp → VK → Prop} (ha : Ev ta σ H (.ref a)) (h : SqL K H a vs) (hr : r = fun xs H Q => ∃ p ys, xs = [.ref p] ∧ (SqL K H p ys ∨ SqT K H p ys) ∧ Q (.int ys.length) H) : Ev (tCB r (tCons ta tNil)) σ H (.int (vs.length : Int)) := by
  subst hr
  exact ev_len ha h
theorem ev_lenLLI (ha : Ev ta σ H (.ref a)) (h : LLI K H a M) : Ev (tCB (rLenS K) (tCons ta tNil)) σ H (.int (M.length : Int)) := by
  obtain ⟨as, h1, h2⟩ := h
  have e := ev_len ha h1
  rw [List.length_map, h2.length] at e
  exact e
theorem ev_lenFm {n : Nat} {f : Nat → Nat → Int} (ha : Ev ta σ H (.ref a)) (h : LLI K H a (Fm n f)) : Ev (tCB (rLenS K) (tCons ta tNil)) σ H (.int (n : Int)) := by
  have e := ev_lenLLI ha h
  rw [fm_len] at e
  exact e
theorem ev_lenLI (ha : Ev ta σ H (.ref a)) (h : LI K H a xs) : Ev (tCB (rLenS K) (tCons ta tNil)) σ H (.int (xs.length : Int)) := by
  have e := ev_len ha h
  rw [List.length_map] at e
  exact e
def rAbs : List V → Hp → VK → Prop := fun xs H Q => ∃ i, xs = [.int i] ∧ Q (.int (if i < 0 then -i else i)) H
theorem ev_abs {i : Int} (ha : Ev ta σ H (.int i)) : Ev (tCB rAbs (tCons ta tNil)) σ H (.int (if i < 0 then -i else i)) := fun H1 e Q q =>
  ha H1 e _ fun H2 e2 => ⟨i, rfl, q H2 e2⟩
/-- a call of a def whose promise is told by its value -/
theorem ev_cast {w : V} (h : Ev te σ H v) (e : v = w) : Ev te σ H w := e ▸ h
end

/-! ### what is new: relations of the heap ahead, the heap behind and the value -/
abbrev R3 := Hp → Hp → V → Prop
def Er (te : TE) (σ : St) (H : Hp) (R : R3) : Prop := ∀ H1, Ex H H1 → ∀ Q : VK, (∀ v H2, Ex H1 H2 → R H1 H2 v → Q v H2) → te σ H1 Q
/-- a new list of lists of ints -/
def RM (M : List (List Int)) : R3 := fun H1 H2 v => ∃ p, v = .ref p ∧ OLLI H1 H2 p M
def RL (xs : List Int) : R3 := fun H1 H2 v => ∃ p, v = .ref p ∧ OLI H1 H2 p xs
structure Mon (R : R3) : Prop where
  up : ∀ {H1 H2 H3 v}, Ex H2 H3 → R H1 H2 v → R H1 H3 v
  dn : ∀ {H0 H1 H2 v}, Ex H0 H1 → R H1 H2 v → R H0 H2 v
theorem mon_RM {M : List (List Int)} : Mon (RM M) := ⟨fun e ⟨p, h, q⟩ => ⟨p, h, q.mono e⟩, fun e ⟨p, h, q⟩ => ⟨p, h, q.back e⟩⟩
theorem mon_RL {xs : List Int} : Mon (RL xs) := ⟨fun e ⟨p, h, q⟩ => ⟨p, h, q.mono e⟩, fun e ⟨p, h, q⟩ => ⟨p, h, q.back e⟩⟩
section
variable {K : Frag} {σ : St} {H H0 H1 H' : Hp} {ta tb te ti tj : TE} {t : TT} {a p r : Addr} {M : List (List Int)} {xs : List Int} {x y z v : V} {R : R3} {D : Ends}
theorem Er.mono (e : Ex H H') (h : Er te σ H R) : Er te σ H' R := fun H1 a Q q => h H1 (e.trans a) Q q
theorem er_of_evl (h : EvL te σ H (xs.map V.int)) : Er te σ H (RL xs) := fun H1 e Q q => h H1 e Q fun p H2 hp e2 h2 => q _ H2 e2 ⟨p, rfl, hp, h2⟩
theorem evl_of_er (h : Er te σ H (RL xs)) : EvL te σ H (xs.map V.int) := fun H1 e Q q => h H1 e Q fun v H2 e2 ⟨p, hv, h1, h2⟩ => by subst hv; exact q p H2 h1 e2 h2
theorem sr_asg {i : Nat} (h : Er te σ H R) (k : ∀ v H1, Ex H H1 → R H H1 v → D.nx (σ.set i (some v)) H1) : tAsg te (gName i) D σ H := h H (Ex.refl H) _ k
theorem qr_asg {i : Nat} {tz : TS} (h : Er te σ H R) (k : ∀ v H1, Ex H H1 → R H H1 v → tz D (σ.set i (some v)) H1) : tSeq (tAsg te (gName i)) tz D σ H := sr_asg (D := { D with nx := tz D }) h k
theorem sr_ret (h : Er te σ H R) (k : ∀ v H1, Ex H H1 → R H H1 v → D.rt v H1) : tRet te D σ H := h H (Ex.refl H) _ k
/-- a promise of a new thing -/
def SpR (sp : Sp) (vs : List V) (H : Hp) (R : R3) : Prop := ∀ H1, Ex H H1 → ∀ Q : VK, (∀ v H2, Ex H1 H2 → R H1 H2 v → Q v H2) → ∀ E : XK, sp vs H1 Q E
theorem er_call {sp : Sp} {dvs vs : List V} {E : XK} {ta : TA} (mR : Mon R) (h : EvA ta σ H vs) (hs : SpR sp (vs ++ dvs) H R) : Er (tCall sp dvs E ta) σ H R := fun H1 e Q q =>
  h H1 e _ fun H2 e2 => hs H2 (e.trans e2) Q (fun v H3 e3 r => q v H3 (e2.trans e3) (mR.dn e2 r)) E

/-! ### comprehensions whose items are new -/
/-- R is not touched by a change of what was there ahead -/
structure Mon' (R : R3) : Prop extends Mon R where
  chg : ∀ {H1 H2 v Dl o}, H1 Dl ≠ none → R H1 H2 v → R H1 (upd H2 Dl o) v
theorem ne_fresh {H1 : Hp} {p Dl : Addr} (hd : H1 Dl ≠ none) (hp : H1 p = none) : p ≠ Dl := fun z => hd (z ▸ hp)
theorem mon'_RL {xs : List Int} : Mon' (RL xs) := { mon_RL with
  chg := fun hd ⟨p, h, q⟩ => ⟨p, h, q.1, by rw [upd_ne (ne_fresh hd q.1)]; exact q.2⟩ }
theorem mon'_RM {M : List (List Int)} : Mon' (RM M) := { mon_RM with
  chg := fun hd ⟨p, h, as, h0, h1, hn2, h2⟩ => ⟨p, h, as, h0, by rw [upd_ne (ne_fresh hd h0)]; exact h1, hn2, paired_mono h2 fun x r q => ⟨q.1, by rw [upd_ne (ne_fresh hd q.1)]; exact q.2⟩⟩ }
/-- a value that is no heap's -/
def RV0 (u : V) : R3 := fun _ _ v => v = u
theorem mon'_RV0 {u : V} : Mon' (RV0 u) := ⟨⟨fun _ h => h, fun _ h => h⟩, fun _ h => h⟩
theorem er_of_ev (h : Ev te σ H v) : Er te σ H (RV0 v) := fun H1 e Q q => h H1 e Q fun H2 e2 => q v H2 e2 rfl
/-- a new tuple of such values -/
def RT (vs : List V) : R3 := fun H1 H2 v => ∃ p, v = .ref p ∧ H1 p = none ∧ H2 p = some (.tup vs)
theorem mon'_RT {vs : List V} : Mon' (RT vs) := ⟨⟨fun e ⟨p, h, h0, h1⟩ => ⟨p, h, h0, e _ _ h1⟩, fun e ⟨p, h, h0, h1⟩ => ⟨p, h, fresh_back e h0, h1⟩⟩, fun hd ⟨p, h, h0, h1⟩ => ⟨p, h, h0, by rw [upd_ne (ne_fresh hd h0)]; exact h1⟩⟩
theorem er_of_evu {vs : List V} (h : EvU te σ H vs) : Er te σ H (RT vs) := fun H1 e Q q => h H1 e Q fun p H2 hp e2 h2 => q _ H2 e2 ⟨p, rfl, hp, h2⟩

/-- what is made so far: vs, each as R says of its turn -/
def Cr (H : Hp) (f : Nat → Bool) (R : Nat → R3) (Dl : Addr) (i : Nat) (H' : Hp) : Prop := H Dl = none ∧ Ex H H' ∧ ∃ vs : List V, H' Dl = some (.lst vs) ∧ Paired (fun v j => ∃ H3, Ex H H3 ∧ H3 Dl ≠ none ∧ R j H3 H' v) vs ((List.range i).filter f)
/-- a new list whose items are as R says, one for each of idx -/
def RLs (idx : List Nat) (R : Nat → R3) : R3 := fun H1 H2 v => ∃ p vs, v = .ref p ∧ H1 p = none ∧ H2 p = some (.lst vs) ∧ Paired (fun v j => R j H1 H2 v) vs idx
theorem filt_len (f : Nat → Bool) (i : Nat) : ((List.range i).filter f).length ≤ i := by
  have h := List.length_filter_le f (List.range i)
  rw [List.length_range] at h
  exact h
theorem filt_yes {f : Nat → Bool} {i : Nat} (h : f i = true) : (List.range (i + 1)).filter f = (List.range i).filter f ++ [i] := by
  rw [List.range_succ, List.filter_append, List.filter_cons, if_pos h]; rfl
theorem filt_no {f : Nat → Bool} {i : Nat} (h : f i = false) : (List.range (i + 1)).filter f = (List.range i).filter f := by
  rw [List.range_succ, List.filter_append, List.filter_cons, if_neg (by rw [h]; decide)]
  exact List.append_nil _
theorem filt_all (i : Nat) : (List.range i).filter (fun _ => true) = List.range i := by rw [List.filter_eq_self]; intros; rfl
theorem cr_turn {H H' : Hp} {f : Nat → Bool} {R : Nat → R3} {Dl : Addr} {i : Nat} {σ2 : L2.St} (mR : ∀ j, Mon' (R j)) (p : Cr H f R Dl i H') (hi : i < 50000) (ht : EvT t σ2 H (f i)) (he : f i = true → Er te σ2 H (R i)) :
    t σ2 H' fun b H3 => if b = true then te σ2 H3 fun y H4 => ∃ acc, H4 Dl = some (.lst acc) ∧ acc.length < sizeLine ∧ Cr H f R Dl (i + 1) (upd H4 Dl (.lst (acc ++ [y]))) else Cr H f R Dl (i + 1) H3 := by
  obtain ⟨p1, p2, vs, p3, p4⟩ := p
  refine ht H' p2 _ fun H3 e3 => ?_
  cases hf : f i with
  | true =>
    show te σ2 H3 fun y H4 => ∃ acc, H4 Dl = some (.lst acc) ∧ acc.length < sizeLine ∧ Cr H f R Dl (i + 1) (upd H4 Dl (.lst (acc ++ [y])))
    refine he hf H3 (p2.trans e3) _ fun v H4 e4 r => ⟨vs, e4 Dl _ (e3 Dl _ p3), sz_lt (by have := filt_len f i; rw [← p4.length] at this; omega), p1, Ex.mut ((p2.trans e3).trans e4) p1, vs ++ [v], upd_same, ?_⟩
    rw [filt_yes hf]
    have nd : H3 Dl ≠ none := by rw [e3 Dl _ p3]; exact fun z => nomatch z
    exact paired_append (paired_mono p4 fun v j ⟨Hz, z1, z2, z3⟩ => ⟨Hz, z1, z2, (mR j).chg z2 ((mR j).up (e3.trans e4) z3)⟩) (.cons ⟨H3, p2.trans e3, nd, (mR i).chg nd r⟩ .nil)
  | false =>
    show Cr H f R Dl (i + 1) H3
    refine ⟨p1, p2.trans e3, vs, e3 Dl _ p3, ?_⟩
    rw [filt_no hf]
    exact paired_mono p4 fun v j ⟨Hz, z1, z2, z3⟩ => ⟨Hz, z1, z2, (mR j).up e3 z3⟩
theorem cr_end {H1 H' : Hp} {f : Nat → Bool} {R : Nat → R3} {Dl : Addr} {n : Nat} (mR : ∀ j, Mon' (R j)) (e1 : Ex H H1) (p : Cr H1 f R Dl n H') : Ex H H' ∧ RLs ((List.range n).filter f) R H H' (.ref Dl) := by
  obtain ⟨p1, p2, vs, p3, p4⟩ := p
  exact ⟨e1.trans p2, Dl, vs, rfl, fresh_back e1 p1, p3, paired_mono p4 fun v j ⟨Hz, z1, z2, z3⟩ => (mR j).dn (e1.trans z1) z3⟩
/-- [te for j in range(n) if t] -/
theorem er_lcR {ta : TA} {j : Nat} {vs : List Nat} {n : Int} (f : Nat → Bool) (R : Nat → R3) (mR : ∀ j, Mon' (R j)) (h : EvA ta σ H [.int n]) (hn : 0 ≤ n ∧ n ≤ 40000) (hw : ∀ x, wipe ((wipe σ vs).set j (some x)) vs = wipe σ vs)
    (ht : ∀ (i : Nat) H1, Ex H H1 → (i : Int) < n → EvT t ((wipe σ vs).set j (some (.int (i : Int)))) H1 (f i)) (he : ∀ (i : Nat) H1, Ex H H1 → (i : Int) < n → f i = true → Er te ((wipe σ vs).set j (some (.int (i : Int)))) H1 (R i)) :
    Er (tLc (iRng1 ta) (gName j) t te vs) σ H (RLs ((List.range n.toNat).filter f) R) := fun H0 e Q q => h H0 e _ fun H1 e1 => ⟨n, rfl, by omega, by omega, fun Dl hD =>
  lc_range (lo := 0) (n := n.toNat) (Cr H1 f R Dl) ⟨hD, Ex.new hD, [], upd_same, .nil⟩ (fun i H' hi p => by
    have e0 : (0 : Int) + (i : Int) = (i : Int) := Int.zero_add _
    rw [e0]
    exact ⟨hw _, cr_turn mR p (by omega) (ht i H1 (e.trans e1) (by omega)) (fun hf => he i H1 (e.trans e1) (by omega) hf)⟩) (fun H' p => by
    obtain ⟨q1, q2⟩ := cr_end mR e1 p
    exact q _ H' q1 q2)⟩
/-- over a list that stands -/
theorem er_lcL {a : Addr} {xs : List V} {tl : TE} {j : Nat} {vs : List Nat} (f : Nat → Bool) (R : Nat → R3) (mR : ∀ j, Mon' (R j)) (h : Ev tl σ H (.ref a)) (hx : SqL K H a xs) (hz : xs.length ≤ 40000) (hw : ∀ x, wipe ((wipe σ vs).set j (some x)) vs = wipe σ vs)
    (ht : ∀ (i : Nat) (x : V) H1, Ex H H1 → xs[i]? = some x → EvT t ((wipe σ vs).set j (some x)) H1 (f i)) (he : ∀ (i : Nat) (x : V) H1, Ex H H1 → xs[i]? = some x → f i = true → Er te ((wipe σ vs).set j (some x)) H1 (R i)) :
    Er (tLc (iList K tl) (gName j) t te vs) σ H (RLs ((List.range xs.length).filter f) R) := fun H0 e Q q => h H0 e _ fun H1 e1 => ⟨a, rfl, ⟨xs, ex_l (e.trans e1) hx⟩, fun Dl hD =>
  lc_list (xs := xs) (Cr H1 f R Dl) ⟨hD, Ex.new hD, [], upd_same, .nil⟩ (fun i H' _ p => ex_l ((e.trans e1).trans p.2.1) hx) (fun i x H' hi p => ⟨hw x, cr_turn mR p (by have := (List.getElem?_eq_some_iff.mp hi).1; omega) (ht i x H1 (e.trans e1) hi) (fun hf => he i x H1 (e.trans e1) hi hf)⟩)
    (fun H' p => by
      obtain ⟨q1, q2⟩ := cr_end mR e1 p
      exact q _ H' q1 q2)⟩
/-- over a list that the reading makes -/
theorem er_lcN {R0 : R3} {tl : TE} {j n : Nat} {vs : List Nat} (f : Nat → Bool) (R : Nat → R3) (mR : ∀ j, Mon' (R j)) (h : Er tl σ H R0) (hz : n ≤ 40000) (hw : ∀ x, wipe ((wipe σ vs).set j (some x)) vs = wipe σ vs)
    (hs : ∀ H1 H2 v, Ex H H1 → Ex H1 H2 → R0 H1 H2 v → ∃ a xs, v = .ref a ∧ SqL K H2 a xs ∧ xs.length = n ∧ ∀ (i : Nat) x H3, xs[i]? = some x → Ex H2 H3 → EvT t ((wipe σ vs).set j (some x)) H3 (f i) ∧ (f i = true → Er te ((wipe σ vs).set j (some x)) H3 (R i))) :
    Er (tLc (iList K tl) (gName j) t te vs) σ H (RLs ((List.range n).filter f) R) := fun H0 e Q q => h H0 e _ fun v H1 e1 r => by
  obtain ⟨a, xs, ev, hx, hn, hi⟩ := hs H0 H1 v e e1 r
  subst ev
  subst hn
  exact ⟨a, rfl, ⟨xs, hx⟩, fun Dl hD =>
    lc_list (xs := xs) (Cr H1 f R Dl) ⟨hD, Ex.new hD, [], upd_same, .nil⟩ (fun i H' _ p => ex_l p.2.1 hx) (fun i x H' hj p => ⟨hw x, cr_turn mR p (by have := (List.getElem?_eq_some_iff.mp hj).1; omega) ((hi i x H1 hj (Ex.refl _)).1) (fun hf => (hi i x H1 hj (Ex.refl _)).2 hf)⟩)
      (fun H' p => by
        obtain ⟨q1, q2⟩ := cr_end mR e1 p
        exact q _ H' q1 q2)⟩

/-! ### a list of new rows -/
def Cm (H : Hp) (g : Nat → List Int) (Dl : Addr) (i : Nat) (H' : Hp) : Prop := Ex H H' ∧ OLLI H H' Dl ((List.range i).map g)
theorem cm_turn {H H' : Hp} {g : Nat → List Int} {Dl : Addr} {i : Nat} {σ2 : L2.St} (p : Cm H g Dl i H') (hi : i < 50000) (he : Er te σ2 H (RL (g i))) :
    tYes σ2 H' fun b H3 => if b = true then te σ2 H3 fun y H4 => ∃ acc, H4 Dl = some (.lst acc) ∧ acc.length < sizeLine ∧ Cm H g Dl (i + 1) (upd H4 Dl (.lst (acc ++ [y]))) else Cm H g Dl (i + 1) H3 := by
  obtain ⟨p1, p2⟩ := p
  show te σ2 H' fun y H4 => ∃ acc, H4 Dl = some (.lst acc) ∧ acc.length < sizeLine ∧ Cm H g Dl (i + 1) (upd H4 Dl (.lst (acc ++ [y])))
  refine he H' p1 _ fun v H4 e4 ⟨r, hv, hr1, hr2⟩ => ?_
  subst hv
  obtain ⟨vs, h1, h2, h3, h4⟩ := p2.push p1 e4 hr1 hr2
  refine ⟨vs, h1, sz_lt (by rw [h2, List.length_map, List.length_range]; omega), h4, ?_⟩
  rw [List.range_succ, List.map_append]
  exact h3
theorem em_lcR {ta : TA} {j : Nat} {vs : List Nat} {n : Int} (g : Nat → List Int) (h : EvA ta σ H [.int n]) (hn : 0 ≤ n ∧ n ≤ 40000) (hw : ∀ x, wipe ((wipe σ vs).set j (some x)) vs = wipe σ vs)
    (he : ∀ (i : Nat) H1, Ex H H1 → (i : Int) < n → Er te ((wipe σ vs).set j (some (.int (i : Int)))) H1 (RL (g i))) :
    Er (tLc (iRng1 ta) (gName j) tYes te vs) σ H (RM ((List.range n.toNat).map g)) := fun H0 e Q q => h H0 e _ fun H1 e1 => ⟨n, rfl, by omega, by omega, fun Dl hD =>
  lc_range (lo := 0) (n := n.toNat) (Cm H1 g Dl) ⟨Ex.new hD, .nil hD upd_same⟩ (fun i H' hi p => by
    have e0 : (0 : Int) + (i : Int) = (i : Int) := Int.zero_add _
    rw [e0]
    exact ⟨hw _, cm_turn p (by omega) (he i H1 (e.trans e1) (by omega))⟩) (fun H' p => q _ H' (e1.trans p.1) ⟨Dl, rfl, p.2.back e1⟩)⟩
theorem em_lcL {a : Addr} {xs : List V} {tl : TE} {j : Nat} {vs : List Nat} (g : Nat → List Int) (h : Ev tl σ H (.ref a)) (hx : SqL K H a xs) (hz : xs.length ≤ 40000) (hw : ∀ x, wipe ((wipe σ vs).set j (some x)) vs = wipe σ vs)
    (he : ∀ (i : Nat) (x : V) H1, Ex H H1 → xs[i]? = some x → Er te ((wipe σ vs).set j (some x)) H1 (RL (g i))) :
    Er (tLc (iList K tl) (gName j) tYes te vs) σ H (RM ((List.range xs.length).map g)) := fun H0 e Q q => h H0 e _ fun H1 e1 => ⟨a, rfl, ⟨xs, ex_l (e.trans e1) hx⟩, fun Dl hD =>
  lc_list (xs := xs) (Cm H1 g Dl) ⟨Ex.new hD, .nil hD upd_same⟩ (fun i H' _ p => ex_l ((e.trans e1).trans p.1) hx) (fun i x H' hi p => ⟨hw x, cm_turn p (by have := (List.getElem?_eq_some_iff.mp hi).1; omega) (he i x H1 (e.trans e1) hi)⟩)
    (fun H' p => q _ H' (e1.trans p.1) ⟨Dl, rfl, p.2.back e1⟩)⟩
end
end AT

/-! ## the rules with the written part named -/
namespace AT
open PySem PySem.Spec PyProof.Rows L2 Evl
section
variable {X : Cx} {tg : Expr}
theorem lenK (K : Frag) (h : X.K = K := by rfl) : CallR X (.builtin "len") (rLenS K) := by subst h; exact call_len_seq
theorem listK (K : Frag) (h : X.K = K := by rfl) : CallR X (.type "list") (rListS K) := by subst h; exact call_list_of
def rTupS (K : Frag) : List V → Hp → VK → Prop := fun xs H Q => ∃ p ys, xs = [.ref p] ∧ ((SqL K H p ys ∧ ∀ l, H l = none → Q (.ref l) (upd H l (.tup ys))) ∨ (SqT K H p ys ∧ Q (.ref p) H))
theorem tupK (K : Frag) (h : X.K = K := by rfl) : CallR X (.type "tuple") (rTupS K) := by subst h; exact call_tuple_of
theorem absK : CallR X (.builtin "abs") rAbs := call_abs
theorem isiK (K : Frag) (h : X.K = K := by rfl) : CallR X (.builtin "isinstance") (rIsi K) := by subst h; exact call_isi
theorem ixL (K : Frag) (h : X.K = K := by rfl) : IxR X (rIxL K) := by subst h; exact ix_list
theorem ixT (K : Frag) (h : X.K = K := by rfl) : IxR X (rIxT K) := by subst h; exact ix_tup
theorem slL (K : Frag) (h : X.K = K := by rfl) : SlR X (rSlL K) := by subst h; exact sl_list
theorem inK (K : Frag) (h : X.K = K := by rfl) : OpR X (compareOp .In) (rIn K false) := by subst h; exact op_in_seq
theorem ninK (K : Frag) (h : X.K = K := by rfl) : OpR X (compareOp .NotIn) (rIn K true) := by subst h; exact op_notIn_seq
theorem eqDK (K : Frag) (hu : X.A.units + 64 < cLine) (h : X.K = K := by rfl) : OpR X (compareOp .Eq) (rEqD K) := by subst h; exact op_eqD hu
theorem neDK (K : Frag) (hu : X.A.units + 64 < cLine) (h : X.K = K := by rfl) : OpR X (compareOp .NotEq) (rNeD K) := by subst h; exact op_neD hu
theorem sumK (K : Frag) (hc : X.calm = true) (h : X.K = K := by rfl) : CallR X (.builtin "sum") (rSum K) := by subst h; exact cr_sum hc
theorem maxK (K : Frag) (hc : X.calm = true) (h : X.K = K := by rfl) : CallR X (.builtin "max") (rMax K) := by subst h; exact cr_max hc
theorem minK (K : Frag) (hc : X.calm = true) (h : X.K = K := by rfl) : CallR X (.builtin "min") (rMin K) := by subst h; exact cr_min hc
theorem allK (K : Frag) (hc : X.calm = true) (h : X.K = K := by rfl) : CallR X (.builtin "all") (rAll K) := by subst h; exact cr_all hc
theorem sortedK (K : Frag) (h : X.K = K := by rfl) : CallR X (.builtin "sorted") (rSorted K) := by subst h; exact cr_sorted
theorem pi_listK (K : Frag) {l : Expr} {tl : TE} (hl : PE X l tl) (h : X.K = K := by rfl) : PI X tg l (iList K tl) := by subst h; exact pi_list hl
theorem pi_tupK (K : Frag) {l : Expr} {tl : TE} (hl : PE X l tl) (h : X.K = K := by rfl) : PI X tg l (iTup K tl) := by subst h; exact pi_tup hl
theorem mt_indexK (K : Frag) (h : X.K = K := by rfl) : MtR X "list.index" (rIndex K) := by subst h; exact mt_index
theorem pi_zipK (K : Frag) {e e2 : Expr} {ta : TA} {p pos tpos : Pos} {elts : List Expr} {kk : Nat} (hg : Gl X "zip") (hm : X.mg "zip" = none) (ha : PA X [e, e2] ta) (h : X.K = K := by rfl)
    (hs : starEach [e, e2] X.env = (false, eval e X.env) :: starEach [e2] X.env := by rfl) (hpl : (backTo pos (starEach [e2] X.env)).any (·.1) = false := by rfl) :
    PI X (.Tuple elts kk tpos) (.Call (.Name "zip" p) [e, e2] [] pos) (iZip K ta) := by subst h; exact pi_zip hg hm ha hs hpl
theorem pg_tupK (K : Frag) {es : List Expr} {k : Nat} {t : TGs} {n : Nat} {pos : Pos} (hc : X.calm = true) (hp : PGs X es t) (h : X.K = K := by rfl)
    (hn : (assignEach es X.env).length = n := by rfl) (hst : (assignEach es X.env).findIdx? (·.1) = none := by rfl) : PG X (.Tuple es k pos) (gTup K n t) := by subst h; exact pg_tup hc hp hn hst
section
variable {o e : Expr} {es : List Expr} {to : TE} {t : TA} {name : Str} {apos cpos : Pos} {T id : String} {r : V → List V → Hp → VK → Prop}
theorem bm0K (K : Frag) (pa : PlainAttrs T) (slot : Slot T name id) (hty : typeOf (.builtin id) = pure (.type "method_descriptor")) (hm : MtR X id r) (ho : PE X o to) (h : X.K = K := by rfl)
    (hbase : attributeBase o name X.env (eval o X.env) = eval o X.env := by rfl) (hline : (apos.endLine == cpos.line) = true := by rfl) : PE X (.Call (.Attribute o name apos) [] [] cpos) (tBM0 K T r to) := by subst h; exact pe_bm0 pa slot hty hm ho hbase hline
theorem bmK (K : Frag) (pa : PlainAttrs T) (slot : Slot T name id) (hty : typeOf (.builtin id) = pure (.type "method_descriptor")) (hm : MtR X id r) (ho : PE X o to) (ha : PA X (e :: es) t) (h : X.K = K := by rfl)
    (hbase : attributeBase o name X.env (eval o X.env) = eval o X.env := by rfl)
    (hfew : ((backTo cpos (starEach (e :: es) X.env)).all (fun x => !x.1) && (backToKw cpos (keywordEach [] X.env)).all (fun x => x.1.isSome)
      && decide ((e :: es).length + ([] : List Keyword).length + (if ([] : List Keyword).isEmpty then 0 else 1) < 30)) = true := by rfl)
    (hline : (apos.endLine == cpos.line) = true := by rfl) (hs : starEach (e :: es) X.env = (false, eval e X.env) :: starEach es X.env := by rfl) (hplain : (backTo cpos (starEach es X.env)).any (·.1) = false := by rfl) :
    PE X (.Call (.Attribute o name apos) (e :: es) [] cpos) (tBM K T r to t) := by subst h; exact pe_bm pa slot hty hm ho ha hbase hfew hline hs hplain
end
end
end AT

/-! ## own exception classes, raised, caught, looked at in a def that the suite calls -/
namespace AT
open PySem PySem.Spec PyProof.Rows L2 Evl L2H
/-- what the top has left of an own exception class without text of its own -/
structure ExcF (K : Frag) (mg : Str → Option Value) (x : Str) (C : Addr) : Prop where
  g : mg x = some (.ref C)
  xn : PySem.W.excIn K C [.type "ValueError", .type "Exception", .type "BaseException", .type "object"] "ValueError.__new__" = true
  kp : PySem.W.keepIn K (.ref C) = true
  bs : PySem.W.subIn K (.ref C) (.type "BaseException") = some true
  ty : PySem.W.typeIn K (.ref C) = some (.type "type")
  ic : PySem.W.isClsIn K C = true
  hg : PySem.W.findIn K (.ref C) "__getattribute__" = some (some (.builtin "BaseException.__getattribute__"))
  hk : PySem.W.findIn K (.ref C) "__getattr__" = some none
  hd : PySem.W.hasDictIn K C = true
  ha : PySem.W.findIn K (.ref C) "__class__" = some (some (.builtin "object.__class__"))
  hn : PySem.W.specialIn K (.builtin "object.__class__") "__get__" = some (some (.builtin "getset_descriptor.__get__"))
  ht : PySem.W.takesIn K (.builtin "object.__class__") = some true
  hm : PySem.W.mroIn K C (.type "object") = some true
  vs : PySem.W.subIn K (.ref C) (.type "ValueError") = some true
section
variable {K : Frag} {mg : Str → Option Value} {x : Str} {C D : Addr}
theorem ExcF.excC (F : ExcF K mg x C) : ExcC K C := ⟨F.hg, F.hk, F.bs, F.hd, F.ha, F.hn, F.ht, F.hm⟩
theorem ExcF.cls (F : ExcF K mg x C) : ((PySem.W.clsIn K C).isSome && PySem.W.typeIn K (.ref C) == some (.type "type")) = true := by
  have h2 : (PySem.W.clsIn K C).isSome = true := F.ic
  rw [h2, F.ty] <;> rfl
theorem ExcF.exm (F : ExcF K mg x C) {cls : Value} {b : Bool} (h : PySem.W.subIn K cls (.ref C) = some b) : PySem.W.exmOne K cls (.ref C) = some b := by
  have e1 : (PySem.W.subIn K (.ref C) (.type "BaseException") == some true) = true := by rw [F.bs] <;> rfl
  show (if (PySem.W.subIn K (.ref C) (.type "BaseException") == some true) = true then (if ((PySem.W.clsIn K C).isSome && PySem.W.typeIn K (.ref C) == some (.type "type")) = true then PySem.W.subIn K cls (.ref C) else none) else none) = some b
  rw [if_pos e1, if_pos F.cls]
  exact h
theorem ExcF.kit (F : ExcF K mg x C) {b : Bool} (h : PySem.W.subIn K (.ref D) (.ref C) = some b) (hd : D = C → b = true) : PySem.W.kitOne K (.ref D) (.ref C) = some b := by
  unfold PySem.W.kitOne
  by_cases e : D = C
  · subst e
    rw [if_pos (by simp), hd rfl]
  · rw [if_neg (by simp [e])]
    show (if ((PySem.W.clsIn K C).isSome && PySem.W.typeIn K (.ref C) == some (.type "type")) = true then PySem.W.subIn K (.ref D) (.ref C) else none) = some b
    rw [if_pos F.cls]
    exact h
theorem ExcF.kitV (F : ExcF K mg x C) : PySem.W.kitOne K (.ref C) (.type "ValueError") = some true := by
  unfold PySem.W.kitOne
  rw [if_neg (by simp)]
  show (if PySem.W.kitMeta "ValueError" = true then PySem.W.subIn K (.ref C) (.type "ValueError") else none) = some true
  rw [if_pos (by decide +kernel)]
  exact F.vs
end

/-! ### a def that is called with the exception at hand -/
structure FnE (P : Program) (w : World) (K : Frag) (mg : Str → Option Value) (base : Heap) (k : Nat) (f : Addr) (fd : FuncData) (ps : List Str) (sp : Addr → Value → Option Addr → Sp) : Prop where
  len : ∀ a c d vs H Q E, sp a c d vs H Q E → vs.length = ps.length
  run : ∀ (A : Around) (outer : List Env) (s : Shared) (H : Hp) (args : Args) (us : List Value) (vs : List V) (Q : VK) (E : XK) (p : Addr × Obj) (c : Value) (d : Option Addr), Zc c d p.2 → (∃ fv, p.2.data = .fields fv) → RoomH k A → PinOk outer H s p → Env0 P w K mg base A outer s H → BindsTo s fd args (ps.zip us) → Vals vs us → sp p.1 c d vs H Q E →
    codeAny (model P w) A (.call (.ref f) args) (CR CX0 outer P w H s Q E) s
theorem fn_ofE {P : Program} {w : World} {K : Frag} {mg : Str → Option Value} {base : Heap} {k : Nat} {f : Addr} {name qual : Str} {params : Arguments} {body : List Stmt} {scope : Scope} {dV kV doc pm cdv ct oc : Value} {an od : Option Addr}
    {osl : Array (Option Value)} {N ps : List Str} {sp : Addr → Value → Option Addr → Sp} (lk : K.lookup f = some ⟨oc, od, .func (PySem.W.fnOf name qual params body scope dV kV doc pm an cdv ct), osl⟩) (hcd : PySem.W.codeIn K cdv qual = true) (S : FnScope N ps scope)
    (len : ∀ a c d vs H Q E, sp a c d vs H Q E → vs.length = ps.length)
    (hbody : ∀ (A : Around) (outer : List Env) (s : Shared) (H : Hp) (vs : List V) (Q : VK) (E : XK) (p : Addr × Obj) (c : Value) (d : Option Addr), Zc c d p.2 → (∃ fv, p.2.data = .fields fv) → RoomH k (A.deeper (envOfC qual scope s.heap.objs.size f cdv)) → sp p.1 c d vs H Q E →
      ∃ t, PSs (cxH CX0 P w K mg base N qual scope f cdv A outer s H E p) body t ∧ t { nx := fun _ H' => Q .non H', rt := Q } (L2.start N vs) H) :
    FnE P w K mg base (k + 1) f (PySem.W.fnOf name qual params body scope dV kV doc pm an cdv ct) ps sp := by
  refine ⟨len, fun A outer s H args us vs Q E p c d hz hf hr hpin e0 hb r hsp => ?_⟩
  have hl := len _ _ _ _ _ _ _ hsp
  have KX : K.In s.heap := e0.mod.kin.keeps fun b o e => (e0.bs b o e).1
  have lim : s.heap.NoLimit := e0.mod.nolimit.keeps fun b o e => (e0.bs b o e).1
  have hkind : ∀ y ∈ ps.zip us, scope.names.lookup y.1 = some .local ∨ (scope.names.lookup y.1 = some .cell ∧ ((cellsFrom (s.heap.objs.size + 1) scope.names []).lookup y.1).isSome = true) := fun ⟨n, v⟩ hy => by
    rcases S.par n (List.of_mem_zip hy).1 with q | q
    · exact .inl q
    · exact .inr ⟨q, PySem.W.cellsFrom_some _ _ _ (.inl q)⟩
  refine codeAny_call_function hr.depth (KX _ _ lk) rfl S.co S.gen rfl (PySem.W.codeRec_of KX hcd) (hb _ _ _ _ ?_)
  refine wpAny_newFunctionEnv_cells S.kind hkind fun env he s1 x => ?_
  subst he
  refine ⟨lim.keeps x.toInCall.keep, codeAny_func ?_⟩
  obtain ⟨t, ht, hq⟩ := hbody A outer s H vs Q E p c d hz hf (hr.deeper _) hsp
  have I : Inv (cxH CX0 P w K mg base N qual scope f cdv A outer s H E p) [] (L2.start N vs) H s1 := inv_startH S hpin e0 hl r x
  refine wpAny_mono (ht.run [] s1 (L2.start N vs) H _ I hq) (fun fl s' hs => ?_) fun e s' hs => hs
  have fin : ∀ {σ' : L2.St} {H' : Hp} {v : V} {u : Value}, Inv (cxH CX0 P w K mg base N qual scope f cdv A outer s H E p) [] σ' H' s' → RelV v u → Q v H' → CE outer P w H s Q u s' :=
    fun {σ' H' v u} J rv q => ⟨v, H', J.os, J.bare, J.base, J.hok, rv, q⟩
  cases fl with
  | ret u =>
    obtain ⟨v, σ', H', J, rv, q⟩ := hs
    exact fin J rv q
  | next =>
    obtain ⟨σ', H', J, q⟩ := hs
    exact fin (v := V.non) (u := Value.none) J rfl q
  | brk =>
    obtain ⟨_, _, _, q⟩ := hs
    exact False.elim q
  | cont =>
    obtain ⟨_, _, _, q⟩ := hs
    exact False.elim q
theorem Fun.okE {P : Program} {w : World} {K : Frag} {mg : Str → Option Value} {base : Heap} {x qual : Str} {st : Stmt} {f : Addr} {fd : FuncData} {N ps : List Str} {k : Nat} {sp : Addr → Value → Option Addr → Sp} (F : Fun K x qual st f fd) (S : FnScope N ps (defScope st)) (len : ∀ a c d vs H Q E, sp a c d vs H Q E → vs.length = ps.length)
    (hbody : ∀ (cdv : Value) (A : Around) (outer : List Env) (s : Shared) (H : Hp) (vs : List V) (Q : VK) (E : XK) (p : Addr × Obj) (c : Value) (d : Option Addr), Zc c d p.2 → (∃ fv, p.2.data = .fields fv) → RoomH k (A.deeper (envOfC qual (defScope st) s.heap.objs.size f cdv)) → sp p.1 c d vs H Q E →
      ∃ t, PSs (cxH CX0 P w K mg base N qual (defScope st) f cdv A outer s H E p).nox (defBody st) t ∧ t { nx := fun _ H' => Q .non H', rt := Q } (L2.start N vs) H) : FnE P w K mg base (k + 1) f fd ps sp := by
  obtain ⟨oc, od, kV, doc, pm, an, cdv, ct, osl, rfl, lk, hcd⟩ := F.ex
  refine fn_ofE lk hcd S len fun A outer s H vs Q E p c d hz hf hr hsp => ?_
  obtain ⟨t, h, q⟩ := hbody cdv A outer s H vs Q E p c d hz hf hr hsp
  exact ⟨t, h.nox, q⟩
section
variable {X : Cx} {k : Nat} {f : Addr} {fd : FuncData} {ps : List Str} {sp : Addr → Value → Option Addr → Sp} {x : Str} {q pos : Pos} {e : Expr} {es : List Expr} {t : TA}
/-- f(e), e the exception that the suite holds -/
def tCallE (sp : Sp) (t : TA) : TE := fun σ H Q => t σ H fun vs H1 => sp vs H1 Q E0
theorem pe_callE {a : Addr} {oe : Obj} {c : Value} {d : Option Addr} (hz : Zc c d oe) (hf : ∃ fv, oe.data = .fields fv) (F : FnE X.prog X.w X.K X.mg X.base k f fd ps sp) (hr : RoomH k X.A) (hp : (a, oe) ∈ X.pn) (hg : Gl X x) (hm : X.mg x = some (.ref f)) (hk : PySem.W.keepIn X.K (.ref f) = true) (hb : Binds X.K fd ps [])
    (ha : PA X (e :: es) t) (hdb : (x == ("__debug__" : Str)) = false := by decide) (he : starEach (e :: es) X.env = (false, eval e X.env) :: starEach es X.env := by rfl) (hpl : (backTo pos (starEach es X.env)).any (·.1) = false := by rfl) :
    PE X (.Call (.Name x q) (e :: es) [] pos) (tCallE (sp a c d) t) := by
  refine ⟨fun pins s σ H Q I h => ?_⟩
  refine wpAny_Call_Name_kw (ld_glob I hg hm ?_ hdb)
  refine PySem.W.callWith_K (h₀ := X.base) I.ok.mod.kin hk (thn (ha.run pos pins s σ H _ I h) fun us s1 ⟨vs, H1, I1, r, q⟩ => ⟨I1.kIn, ?_⟩) he hpl
  have hl : us.length = ps.length := by rw [← r.length]; exact F.len _ _ _ _ _ _ _ q
  have b := hb s1 us I1.kIn (by rw [List.append_nil]; exact hl)
  rw [List.append_nil] at b
  have P1 := I1.pin (a, oe) (List.mem_append_left _ hp)
  have hpin : PinOk X.stack H1 s1 (a, oe) := ⟨P1.1, P1.2.1, fun hm => (List.mem_cons.mp (I1.stkSub a hm)).elim P1.2.2.1 P1.2.2.2.1, P1.2.2.2.2⟩
  refine wpAny_call (codeAny_mono (F.run X.A X.stack s1 H1 ⟨us, []⟩ us vs Q E0 (a, oe) c d hz hf hr hpin I1.env0 b r q) fun r s' hq => ?_)
  cases r with
  | error e => exact False.elim hq
  | ok fl =>
    cases fl with
    | ret u => exact I1.after hq
    | next => exact False.elim hq
    | brk => exact False.elim hq
    | cont => exact False.elim hq
/-- isinstance(e, C) there -/
theorem call_isP {a D : Addr} {oe : Obj} (K : Frag) (hp : (a, oe) ∈ X.pn) (C : ExcC K D) (hz : Zc (.ref D) none oe) (hf : ∃ vs, oe.data = .fields vs) (hK : X.K = K := by rfl) : CallR X (.builtin "isinstance") (rIsE K D a) := by
  subst hK
  intro pins s σ H xs us Q I r h
  obtain ⟨c, cv, b, rfl, hcv, e, q⟩ := h
  cases r with
  | cons rx rr =>
    cases rr with
    | cons rt rr =>
      cases rr
      cases rx
      have ec := hcv _ rt
      subst ec
      obtain ⟨hget, _⟩ := I.pin (a, oe) (List.mem_append.mpr (.inl hp))
      obtain ⟨vs, hv⟩ := hf
      have J : PySem.W.InstAt s.heap a oe D none := by
        obtain ⟨oc, od, oda, osl⟩ := oe
        obtain ⟨h1, h2⟩ := hz
        dsimp only at h1 h2 hv
        subst h1 h2 hv
        exact ⟨hget, rfl, rfl, trivial⟩
      exact PySem.W.kia_one (PySem.W.handS_kitx_exc C.hg C.hk C.hs C.hd C.ha C.hn C.ht C.hm) I.kIn J e (fun z => nomatch z) fun tk => ⟨.bl b, H, I.kept (t' := tk) fun _ _ z => z, rfl, q⟩
end

/-! ### list.count(True) of a list of truth values -/
def eqb (b : Bool) (v : Value) : Bool := v == .bool b
def rCntB (K : Frag) : V → List V → Hp → VK → Prop := fun x xs H Q => ∃ (p : Addr) (ns : List Bool) (k : Bool), x = .ref p ∧ xs = [.bl k] ∧ SqL K H p (ns.map V.bl) ∧ Q (.int (ns.count k : Nat)) H
theorem bools_of : ∀ {ns : List Bool} {us : List Value}, Vals (ns.map V.bl) us → us = ns.map Value.bool
  | [], _, .nil => rfl
  | n :: ns, _, .cons r t => by
    cases (show _ = Value.bool n from r)
    rw [bools_of t]; rfl
theorem bools_count (k : Bool) : ∀ ns : List Bool, (ns.map Value.bool).countP (eqb k) = ns.count k
  | [] => rfl
  | n :: ns => by
    rw [List.map_cons, List.countP_cons, List.count_cons, bools_count k ns]
    congr 1
    cases n <;> cases k <;> rfl
theorem mt_countB {X : Cx} (K : Frag) (hK : X.K = K := by rfl) : MtR X "list.count" (rCntB K) := by
  subst hK
  intro pins s σ H x xs v us Q I rx rxs h
  obtain ⟨p, ns, k, rfl, rfl, hs, q⟩ := h
  cases rx
  obtain ⟨u, rfl, ru⟩ := rxs.one
  cases (show u = Value.bool k from ru)
  obtain ⟨its, rv, ⟨⟨cls, dd, data, sl⟩, n, ho, hc, hdn, hd⟩, hlen⟩ := I.list hs
  simp only at hc hd
  subst hc hd
  have hi := bools_of rv
  subst hi
  refine call_meets PySem.F.slot_list_count ⟨_, ho, rfl⟩ PySem.F.entry_list_count (PySem.F.args_list_count_2 _ _)
    (SeqAt.list_countAt p (ns.map Value.bool).toArray n dd sl (.bool k) (eqb k)) ⟨ho, fun y hy => ?_, ?_⟩
  · obtain ⟨b, _, rfl⟩ := List.mem_map.mp (show y ∈ ns.map Value.bool by simpa using hy)
    have e := eqAt_V (A := X.A.in1) (s := s) (y := .bl b) (x := .bl k) (u := .bool b) (v := .bool k) rfl rfl rfl rfl
    have e2 : eqV (.bl b) (.bl k) = eqb k (.bool b) := by cases b <;> cases k <;> rfl
    rw [e2] at e
    exact e
  · have ec : (ns.map Value.bool).toArray.toList.countP (eqb k) = ns.count k := by
      rw [List.toList_toArray]
      exact bools_count k ns
    refine ⟨.int (ns.count k : Nat), H, I.tok _, ⟨s.toks, ?_⟩, q⟩
    show Value.int (((ns.map Value.bool).toArray.toList.countP (eqb k) : Nat) : Int) s.toks = Value.int ((ns.count k : Nat) : Int) s.toks
    rw [ec]
end AT

/-! ## more of the layer: stores into rows, menus, zip, ==, isinstance -/
namespace AT
open PySem PySem.Spec PyProof.Rows L2 Evl
abbrev E00 : Hp := fun _ => none
theorem ex_E00 {H : Hp} : Ex E00 H := fun _ _ h => by cases h
/-- a tracked list of lists, all apart -/
abbrev TLL (H : Hp) (a : Addr) (M : List (List Int)) : Prop := OLLI E00 H a M
theorem OLLI.tll {H0 H : Hp} {a : Addr} {M : List (List Int)} (h : OLLI H0 H a M) : TLL H a M := h.back ex_E00
section
variable {K : Frag} {σ : St} {H H0 H1 H' : Hp} {ta tb tc te ti tj tv : TE} {t : TT} {a b p r : Addr} {M : List (List Int)} {xs : List Int} {x y z v : V} {R : R3} {D : Ends} {tu tz : TS}

/-- M[i][j] = v -/
def setM (M : List (List Int)) (i j : Nat) (v : Int) : List (List Int) := M.set i ((M.getD i []).set j v)
theorem OLLI.store {i j : Nat} {row : List Int} {w : Int} (h : OLLI H0 H p M) (e : M[i]? = some row) : ∃ (as : List Addr) (x : Addr), H p = some (.lst (as.map V.ref)) ∧ as[i]? = some x ∧ H0 x = none ∧ H x = some (.lst (row.map V.int)) ∧
    ∀ H1, Ex H H1 → OLLI H0 (upd H1 x (.lst ((row.map V.int).set j (.int w)))) p (M.set i (row.set j w)) := by
  obtain ⟨as, h0, h1, hn, h2⟩ := h
  obtain ⟨x, ex, qx⟩ := paired_get h2 e
  refine ⟨as, x, h1, ex, qx.1, qx.2, fun H1 eH => ?_⟩
  rw [List.nodup_cons] at hn
  have hxm : x ∈ as := List.mem_of_getElem? ex
  have hpx : p ≠ x := fun z => hn.1 (z ▸ hxm)
  refine ⟨as, h0, by rw [upd_ne hpx]; exact eH _ _ h1, List.nodup_cons.mpr hn, ?_⟩
  refine paired_of (by rw [List.length_set, h2.length]) fun k y r hy hr => ?_
  by_cases hk : k = i
  · subst hk
    rw [ex] at hy; cases hy
    have hlt : k < M.length := (List.getElem?_eq_some_iff.mp e).1
    rw [List.getElem?_set_self hlt] at hr
    cases hr
    exact ⟨qx.1, by rw [upd_same, List.map_set]⟩
  · rw [List.getElem?_set_ne (Ne.symm hk)] at hr
    obtain ⟨z, hz, qz⟩ := paired_get h2 hr
    rw [hy] at hz; cases hz
    have hne : y ≠ x := fun e2 => hk (by
      subst e2
      obtain ⟨a1, b1⟩ := List.getElem?_eq_some_iff.mp hy
      obtain ⟨a2, b2⟩ := List.getElem?_eq_some_iff.mp ex
      exact (List.getElem_inj hn.2).mp (b1.trans b2.symm))
    exact ⟨qz.1, by rw [upd_ne hne]; exact eH _ _ qz.2⟩
theorem s_setM {i j : Nat} {row : List Int} {w : Int} (h : OLLI H0 H p M) (e0 : Ex H0 H) (e : M[i]? = some row) (hj : j < row.length) (he : Ev te σ H (.int w)) (ho : Ev tv σ H (.ref p)) (hi : Ev ti σ H (.int (i : Int))) (hj' : Ev tj σ H (.int (j : Int)))
    (k : ∀ H1, Ex H0 H1 → OLLI H0 H1 p (M.set i (row.set j w)) → D.nx σ H1) : tAsg te (gSub (tOp (rIxL K) tv ti) tj rSetL) D σ H := by
  obtain ⟨as, x, h1, h2, h3, h4, h5⟩ := h.store (j := j) (w := w) e
  refine s_setL (l := x) (xs := row.map V.int) (j := j) h4 he (ev_op ho hi (rv_ixL (sq_of h1) (atI_n (by rw [List.getElem?_map, h2]; rfl)))) hj' (by rw [List.length_map]; exact hj) fun H1 e1 => ?_
  exact k _ (Ex.mut (e0.trans e1) h3) (h5 H1 e1)
theorem q_setM {i j : Nat} {row : List Int} {w : Int} (h : OLLI H0 H p M) (e0 : Ex H0 H) (e : M[i]? = some row) (hj : j < row.length) (he : Ev te σ H (.int w)) (ho : Ev tv σ H (.ref p)) (hi : Ev ti σ H (.int (i : Int))) (hj' : Ev tj σ H (.int (j : Int)))
    (k : ∀ H1, Ex H0 H1 → OLLI H0 H1 p (M.set i (row.set j w)) → tz D σ H1) : tSeq (tAsg te (gSub (tOp (rIxL K) tv ti) tj rSetL)) tz D σ H :=
  s_setM (D := { D with nx := tz D }) h e0 e hj he ho hi hj' k
/-- f but v at i, j -/
def setF (f : Nat → Nat → Int) (i j : Nat) (v : Int) : Nat → Nat → Int := fun a b => if a = i ∧ b = j then v else f a b
theorem setF_fm {n i j : Nat} {f : Nat → Nat → Int} {v : Int} (hi : i < n) (hj : j < n) : (Fm n f).set i (((List.range n).map (f i)).set j v) = Fm n (setF f i j v) := by
  apply List.ext_getElem?
  intro a
  by_cases ha : a = i
  · subst ha
    rw [List.getElem?_set_self (by rw [fm_len]; exact hi), fm_get hi]
    congr 1
    apply List.ext_getElem?
    intro b
    by_cases hb : b = j
    · subst hb
      rw [List.getElem?_set_self (by simpa using hj), mapr_get hj]
      unfold setF
      rw [if_pos ⟨rfl, rfl⟩]
    · rw [List.getElem?_set_ne (Ne.symm hb)]
      by_cases hbn : b < n
      · rw [mapr_get hbn, mapr_get hbn]
        unfold setF
        rw [if_neg (fun z => hb z.2)]
      · rw [List.getElem?_eq_none (by simpa using hbn), List.getElem?_eq_none (by simpa using hbn)]
  · rw [List.getElem?_set_ne (Ne.symm ha)]
    by_cases han : a < n
    · rw [fm_get han, fm_get han]
      congr 1
      exact mapr_ext fun b _ => by
        unfold setF
        rw [if_neg (fun z => ha z.1)]
    · rw [List.getElem?_eq_none (by rw [fm_len]; omega), List.getElem?_eq_none (by rw [fm_len]; omega)]
theorem q_setFm {n i j : Nat} {f : Nat → Nat → Int} {w : Int} (h : OLLI H0 H p (Fm n f)) (e0 : Ex H0 H) (hin : i < n) (hjn : j < n) (he : Ev te σ H (.int w)) (ho : Ev tv σ H (.ref p)) (hi : Ev ti σ H (.int (i : Int))) (hj' : Ev tj σ H (.int (j : Int)))
    (k : ∀ H1, Ex H0 H1 → OLLI H0 H1 p (Fm n (setF f i j w)) → tz D σ H1) : tSeq (tAsg te (gSub (tOp (rIxL K) tv ti) tj rSetL)) tz D σ H :=
  q_setM h e0 (fm_get hin) (by simpa using hjn) he ho hi hj' fun H1 e1 h1 => k H1 e1 (by rw [setF_fm hin hjn] at h1; exact h1)
theorem s_setFm {n i j : Nat} {f : Nat → Nat → Int} {w : Int} (h : OLLI H0 H p (Fm n f)) (e0 : Ex H0 H) (hin : i < n) (hjn : j < n) (he : Ev te σ H (.int w)) (ho : Ev tv σ H (.ref p)) (hi : Ev ti σ H (.int (i : Int))) (hj' : Ev tj σ H (.int (j : Int)))
    (k : ∀ H1, Ex H0 H1 → OLLI H0 H1 p (Fm n (setF f i j w)) → D.nx σ H1) : tAsg te (gSub (tOp (rIxL K) tv ti) tj rSetL) D σ H :=
  s_setM h e0 (fm_get hin) (by simpa using hjn) he ho hi hj' fun H1 e1 h1 => k H1 e1 (by rw [setF_fm hin hjn] at h1; exact h1)

/-- [a, b, ..][i] -/
theorem ev_menu {ta : TA} {i : Nat} {vs : List V} {v : V} (h : EvA ta σ H vs) (hl : vs.length ≤ 100000) (hi : ∀ H1, Ex H H1 → Ev ti σ H1 (.int (i : Int))) (hv : vs[i]? = some v) : Ev (tOp (rIxL K) (tLst ta) ti) σ H v :=
  ev_opL1 (el_lst h hl) hi fun p H1 hp e1 => rv_ixL (sq_of hp) (atI_n hv)

/-- for x, y in zip(xs, ys) -/
theorem s_forZ {ta : TA} {i1 i2 : Nat} {xs ys : List V} (h : EvA ta σ H [.ref a, .ref b]) (ha : SqL K H a xs) (hb : SqL K H b ys) (hl : xs.length = ys.length) (Pv : Nat → St → Hp → Prop) (h0 : ∀ H1, Ex H H1 → Pv 0 σ H1)
    (hq : ∀ i σ' H', Pv i σ' H' → SqL K H' a xs ∧ SqL K H' b ys)
    (hs : ∀ (i : Nat) x y T σ' H', xs[i]? = some x → ys[i]? = some y → Pv i σ' H' → H' T = none → tu { D with nx := Pv (i + 1), ct := Pv (i + 1), bk := D.nx } ((σ'.set i1 (some x)).set i2 (some y)) (upd H' T (.tup [x, y])))
    (hd : ∀ σ' H', Pv xs.length σ' H' → D.nx σ' H') : tFor (iZip K ta) (gTup K 2 (gCons (gName i1) (gCons (gName i2) gNil))) tu D σ H :=
  h H (Ex.refl H) _ fun H1 e => ⟨a, b, xs, ys, rfl, ex_l e ha, ex_l e hb, RZ.for_zipL hl Pv (h0 H1 e) hq (fun i x y T σ' H' hx hy p hT => ⟨T, [x, y], rfl, st_of upd_same, rfl, x, [y], rfl, y, [], rfl, rfl, hs i x y T σ' H' hx hy p hT⟩) hd⟩
theorem q_forZ {ta : TA} {i1 i2 : Nat} {xs ys : List V} (h : EvA ta σ H [.ref a, .ref b]) (ha : SqL K H a xs) (hb : SqL K H b ys) (hl : xs.length = ys.length) (Pv : Nat → St → Hp → Prop) (h0 : ∀ H1, Ex H H1 → Pv 0 σ H1)
    (hq : ∀ i σ' H', Pv i σ' H' → SqL K H' a xs ∧ SqL K H' b ys)
    (hs : ∀ (i : Nat) x y T σ' H', xs[i]? = some x → ys[i]? = some y → Pv i σ' H' → H' T = none → tu { D with nx := Pv (i + 1), ct := Pv (i + 1), bk := tz D } ((σ'.set i1 (some x)).set i2 (some y)) (upd H' T (.tup [x, y])))
    (hd : ∀ σ' H', Pv xs.length σ' H' → tz D σ' H') : tSeq (tFor (iZip K ta) (gTup K 2 (gCons (gName i1) (gCons (gName i2) gNil))) tu) tz D σ H :=
  s_forZ (D := { D with nx := tz D }) h ha hb hl Pv h0 hq hs hd

/-! ### isinstance -/
theorem ev_isi {u w : Value} {n m : String} {k : Bool} (ha : Ev ta σ H x) (hx : ∀ H1, Ex H H1 → TyX K H1 x (.type n)) (hk : PySem.W.kitOne K (.type n) (.type m) = some k) : Ev (tCB (rIsi K) (tCons ta (tCons (tC (.ty m)) tNil))) σ H (.bl k) := fun H1 e Q q =>
  ha H1 e _ fun H2 e2 => ⟨x, .ty m, .type n, .type m, k, rfl, .ty m, hx H2 (e.trans e2), hk, q H2 e2⟩
theorem ev_isInt {i : Int} (ha : Ev ta σ H (.int i)) : Ev (tCB (rIsi K) (tCons ta (tCons (tC (.ty "int")) tNil))) σ H (.bl true) := ev_isi (u := .none) (w := .none) (n := "int") ha (fun _ _ => .base (.int i)) (kit_ty (by decide +kernel))
theorem ev_isIntBool {i : Int} (ha : Ev ta σ H (.int i)) : Ev (tCB (rIsi K) (tCons ta (tCons (tC (.ty "bool")) tNil))) σ H (.bl false) := ev_isi (u := .none) (w := .none) (n := "int") ha (fun _ _ => .base (.int i)) (kit_ty (by decide +kernel))
theorem ev_isList {vs : List V} (ha : Ev ta σ H (.ref p)) (h : H p = some (.lst vs)) : Ev (tCB (rIsi K) (tCons ta (tCons (tC (.ty "list")) tNil))) σ H (.bl true) := ev_isi (u := .none) (w := .none) (n := "list") ha (fun H1 e => .base (.lst (e _ _ h))) (kit_ty (by decide +kernel))
theorem ev_isBool {k : Bool} (ha : Ev ta σ H (.bl k)) : Ev (tCB (rIsi K) (tCons ta (tCons (tC (.ty "bool")) tNil))) σ H (.bl true) := ev_isi (u := .none) (w := .none) (n := "bool") ha (fun _ _ => .base (.bl k)) (kit_ty (by decide +kernel))

/-! ### == of lists of ints, of lists of them -/
def dI (xs : List Int) : List PyData := xs.map PyData.int
def dM (M : List (List Int)) : List PyData := M.map fun r => .list (dI r)
theorem dpAll_ints : ∀ xs : List Int, DpAll K H (xs.map V.int) (dI xs)
  | [] => .nil
  | x :: r => .cons (.int x) (dpAll_ints r)
theorem LI.dp (h : LI K H a xs) : Dp K H (.ref a) (.list (dI xs)) := .lst h (dpAll_ints xs)
theorem dpAll_rows : ∀ {as : List Addr} {M : List (List Int)}, Paired (fun x r => LI K H x r) as M → DpAll K H (as.map V.ref) (dM M)
  | _, _, .nil => .nil
  | _, _, .cons r t => .cons r.dp (dpAll_rows t)
theorem LLI.dp (h : LLI K H a M) : Dp K H (.ref a) (.list (dM M)) := by
  obtain ⟨as, h1, h2⟩ := h
  exact .lst h1 (dpAll_rows h2)
theorem canLay_ints : ∀ xs : List Int, PyData.canLayAll0 (dI xs) = true
  | [] => rfl
  | x :: r => by
    have := canLay_ints r
    simpa [dI, PyData.canLayAll0, PyData.canLay0] using this
theorem canLay_rows : ∀ M : List (List Int), PyData.canLayAll0 (dM M) = true
  | [] => rfl
  | x :: r => by
    have h1 := canLay_rows r
    have h2 := canLay_ints x
    simp only [dM, List.map_cons, PyData.canLayAll0, PyData.canLay0, Bool.and_eq_true]
    exact ⟨h2, h1⟩
theorem depth_ints : ∀ xs : List Int, PyData.depthAll (dI xs) ≤ 1
  | [] => by simp [dI, PyData.depthAll]
  | x :: r => by
    have := depth_ints r
    simp only [dI, List.map_cons, PyData.depthAll, PyData.depth] at *
    omega
theorem depth_rows : ∀ M : List (List Int), PyData.depthAll (dM M) ≤ 2
  | [] => by simp [dM, PyData.depthAll]
  | x :: r => by
    have h1 := depth_rows r
    have h2 := depth_ints x
    simp only [dM, List.map_cons, PyData.depthAll, PyData.depth] at *
    omega
theorem shaped_I (xs : List Int) : SeqAt.shaped (.list (dI xs)) = true := by
  unfold SeqAt.shaped
  rw [Bool.and_eq_true]
  refine ⟨by simpa [PyData.canLay0] using canLay_ints xs, decide_eq_true ?_⟩
  have := depth_ints xs
  simp only [PyData.depth]
  omega
theorem shaped_M (M : List (List Int)) : SeqAt.shaped (.list (dM M)) = true := by
  unfold SeqAt.shaped
  rw [Bool.and_eq_true]
  refine ⟨by simpa [PyData.canLay0] using canLay_rows M, decide_eq_true ?_⟩
  have := depth_rows M
  simp only [PyData.depth]
  omega
theorem eqv_I : ∀ xs ys : List Int, PyData.eqvAll (dI xs) (dI ys) = decide (xs = ys)
  | [], [] => rfl
  | [], _ :: _ => rfl
  | _ :: _, [] => rfl
  | x :: xs, y :: ys => by
    have ih := eqv_I xs ys
    show (PyData.eqv (.int x) (.int y) && PyData.eqvAll (dI xs) (dI ys)) = _
    rw [ih]
    show ((x == y) && decide (xs = ys)) = _
    by_cases e : x = y
    · subst e; simp
    · simp [e]
theorem eqv_M : ∀ xs ys : List (List Int), PyData.eqvAll (dM xs) (dM ys) = decide (xs = ys)
  | [], [] => rfl
  | [], _ :: _ => rfl
  | _ :: _, [] => rfl
  | x :: xs, y :: ys => by
    have ih := eqv_M xs ys
    show (PyData.eqv (.list (dI x)) (.list (dI y)) && PyData.eqvAll (dM xs) (dM ys)) = _
    rw [ih]
    show (PyData.eqvAll (dI x) (dI y) && decide (xs = ys)) = _
    rw [eqv_I]
    by_cases e : x = y
    · subst e; simp
    · simp [e]
theorem rv_eqM {N : List (List Int)} (ha : LLI K H a M) (hb : LLI K H b N) : RV (rEqD K) (.ref a) (.ref b) H (.bl (decide (M = N))) := fun H1 e Q q =>
  ⟨_, _, (ha.mono e).dp, (hb.mono e).dp, shaped_M M, shaped_M N, by
    show Q (.bl (PyData.eqvAll (dM M) (dM N))) H1
    rw [eqv_M]
    exact q H1 (Ex.refl _)⟩
theorem rv_neM {N : List (List Int)} (ha : LLI K H a M) (hb : LLI K H b N) : RV (rNeD K) (.ref a) (.ref b) H (.bl (!decide (M = N))) := fun H1 e Q q =>
  ⟨_, _, (ha.mono e).dp, (hb.mono e).dp, shaped_M M, shaped_M N, by
    show Q (.bl (!PyData.eqvAll (dM M) (dM N))) H1
    rw [eqv_M]
    exact q H1 (Ex.refl _)⟩
theorem rv_eqI {ys : List Int} (ha : LI K H a xs) (hb : LI K H b ys) : RV (rEqD K) (.ref a) (.ref b) H (.bl (decide (xs = ys))) := fun H1 e Q q =>
  ⟨_, _, (ha.mono e).dp, (hb.mono e).dp, shaped_I xs, shaped_I ys, by
    show Q (.bl (PyData.eqvAll (dI xs) (dI ys))) H1
    rw [eqv_I]
    exact q H1 (Ex.refl _)⟩
theorem rv_neI {ys : List Int} (ha : LI K H a xs) (hb : LI K H b ys) : RV (rNeD K) (.ref a) (.ref b) H (.bl (!decide (xs = ys))) := fun H1 e Q q =>
  ⟨_, _, (ha.mono e).dp, (hb.mono e).dp, shaped_I xs, shaped_I ys, by
    show Q (.bl (!PyData.eqvAll (dI xs) (dI ys))) H1
    rw [eqv_I]
    exact q H1 (Ex.refl _)⟩
/-- x, y = e1, e2 -/
theorem s_par {i j : Nat} {ta : TA} {v1 v2 : V} (h : EvA ta σ H [v1, v2]) (k : ∀ H1, Ex H H1 → D.nx ((σ.set i (some v1)).set j (some v2)) H1) : tPar i j ta D σ H := h H (Ex.refl H) _ fun H1 e => ⟨v1, v2, rfl, k H1 e⟩
theorem q_par {i j : Nat} {ta : TA} {v1 v2 : V} (h : EvA ta σ H [v1, v2]) (k : ∀ H1, Ex H H1 → tz D ((σ.set i (some v1)).set j (some v2)) H1) : tSeq (tPar i j ta) tz D σ H := s_par (D := { D with nx := tz D }) h k
/-! ### xs[1:], calls with new arguments, xs.pop() -/
theorem cut1 (xs : List V) : cutV xs (some 1) none = xs.drop 1 := by
  unfold cutV
  rw [show HT.sIx xs.length 0 (some 1) = min 1 xs.length from HT.sIx_nat xs.length 0 1, HT.sIx_none]
  cases xs with
  | nil => rfl
  | cons x r =>
    rw [show min 1 (x :: r).length = 1 by
      rw [List.length_cons]
      omega]
    show (List.take ((x :: r).length - 1) r) = r
    rw [List.length_cons, Nat.add_sub_cancel]
    exact List.take_length
def RTL (N : List (List Int)) : R3 := fun _ H2 v => ∃ y, v = .ref y ∧ TLL H2 y N
theorem er_slice1 {N : List (List Int)} {x : Addr} (h : Ev te σ H (.ref x)) (hN : OLLI H0 H x N) : Er (tSl (rSlL K) te (tPart (tC (.int 1))) tNoPart) σ H (RTL (N.drop 1)) := fun H1 e Q q => by
  obtain ⟨as, _, h1, hn, h2⟩ := hN
  refine el_sl h (eo_some ev_c) eo_none (sq_of h1) H1 e _ fun p H2 hp e2 hp2 => q _ H2 e2 ⟨p, rfl, as.drop 1, rfl, ?_, ?_, ?_⟩
  · rw [hp2, cut1, List.map_drop]
  · rw [List.nodup_cons] at hn ⊢
    refine ⟨fun hm => ?_, hn.2.sublist (List.drop_sublist 1 as)⟩
    have hm2 : p ∈ as := List.mem_of_mem_drop hm
    obtain ⟨r, _, hr⟩ := paired_mem h2 hm2
    have := e _ _ hr.2
    rw [hp] at this
    cases this
  · exact paired_drop 1 (paired_mono h2 fun x r q => ⟨rfl, (e.trans e2) _ _ q.2⟩)
theorem ev_callR2 {R1 R2 : R3} {sp : Sp} {E : XK} {t1 t2 : TE} (h1 : Er t1 σ H R1) (h2 : Er t2 σ H R2) (hs : ∀ v1 v2 H1 H2 H3, Ex H H1 → Ex H1 H2 → Ex H2 H3 → R1 H1 H2 v1 → R2 H2 H3 v2 → SpV sp [v1, v2] H3 z) : Ev (tCall sp [] E (tCons t1 (tCons t2 tNil))) σ H z := fun H1 e Q q =>
  h1 H1 e _ fun v1 H2 e2 r1 => h2 H2 (e.trans e2) _ fun v2 H3 e3 r2 => hs v1 v2 H1 H2 H3 e e2 e3 r1 r2 H3 (Ex.refl _) Q (fun H4 e4 => q H4 ((e2.trans e3).trans e4)) E
theorem s_pop {l : Addr} {vs : List V} {y : V} (hl : H l = some (.lst vs)) (ha : Ev ta σ H (.ref l)) (hy : vs[vs.length - 1]? = some y) (k : ∀ H1, Ex H H1 → D.nx σ (upd H1 l (.lst vs.dropLast))) : tDrop (tBM0 K "list" rPop ta) D σ H :=
  ha H (Ex.refl H) _ fun H1 e1 => ⟨.inl ⟨rfl, vs, sq_of (e1 _ _ hl)⟩, l, vs, y, rfl, rfl, e1 _ _ hl, hy, k H1 e1⟩
end
end AT

/-! ## calls whose arguments are new things; the greatest of a list -/
namespace AT
open PySem PySem.Spec PyProof.Rows L2 Evl
section
variable {K : Frag} {σ : St} {H H0 H1 H' : Hp} {ta : TA} {te t1 t2 : TE} {t : TT} {a b p r : Addr} {M : List (List Int)} {xs : List Int} {x y z v : V} {R R1 R2 : R3} {D : Ends} {tu tz : TS} {sp : Sp} {E : XK} {vs : List V}
theorem ev_callR1 (h1 : Er t1 σ H R1) (h2 : EvA ta σ H vs) (hs : ∀ v1 H1 H2 H3, Ex H H1 → Ex H1 H2 → Ex H2 H3 → R1 H1 H2 v1 → SpV sp (v1 :: vs) H3 z) : Ev (tCall sp [] E (tCons t1 ta)) σ H z := fun H1 e Q q =>
  h1 H1 e _ fun v1 H2 e2 r1 => h2 H2 (e.trans e2) _ fun H3 e3 => (by
    show sp ((v1 :: vs) ++ []) H3 Q E
    rw [List.append_nil]
    exact hs v1 H1 H2 H3 e e2 e3 r1 H3 (Ex.refl _) Q (fun H4 e4 => q H4 ((e2.trans e3).trans e4)) E)
theorem er_callR1 (mR : Mon R) (h1 : Er t1 σ H R1) (h2 : EvA ta σ H vs) (hs : ∀ v1 H1 H2 H3, Ex H H1 → Ex H1 H2 → Ex H2 H3 → R1 H1 H2 v1 → SpR sp (v1 :: vs) H3 R) : Er (tCall sp [] E (tCons t1 ta)) σ H R := fun H1 e Q q =>
  h1 H1 e _ fun v1 H2 e2 r1 => h2 H2 (e.trans e2) _ fun H3 e3 => (by
    show sp ((v1 :: vs) ++ []) H3 Q E
    rw [List.append_nil]
    exact hs v1 H1 H2 H3 e e2 e3 r1 H3 (Ex.refl _) Q (fun v H4 e4 r => q v H4 ((e2.trans e3).trans e4) (mR.dn (e2.trans e3) r)) E)
theorem er_callR2 (mR : Mon R) (h1 : Er t1 σ H R1) (h2 : Er t2 σ H R2) (hs : ∀ v1 v2 H1 H2 H3, Ex H H1 → Ex H1 H2 → Ex H2 H3 → R1 H1 H2 v1 → R2 H2 H3 v2 → SpR sp [v1, v2] H3 R) : Er (tCall sp [] E (tCons t1 (tCons t2 tNil))) σ H R := fun H1 e Q q =>
  h1 H1 e _ fun v1 H2 e2 r1 => h2 H2 (e.trans e2) _ fun v2 H3 e3 r2 => hs v1 v2 H1 H2 H3 e e2 e3 r1 r2 H3 (Ex.refl _) Q (fun v H4 e4 r => q v H4 ((e2.trans e3).trans e4) (mR.dn (e2.trans e3) r)) E
/-- x a name, the second new -/
theorem er_evR (h : Ev te σ H v) : Er te σ H (fun _ _ u => u = v) := fun H1 e Q q => h H1 e Q fun H2 e2 => q v H2 e2 rfl

/-! ### max -/
def maxL : List Int → Int
  | [] => 0
  | [x] => x
  | x :: y :: r => if x ≤ maxL (y :: r) then maxL (y :: r) else x
theorem maxL_mem : ∀ {xs : List Int}, xs ≠ [] → maxL xs ∈ xs
  | [], h => absurd rfl h
  | [x], _ => List.mem_cons_self
  | x :: y :: r, _ => by
    unfold maxL
    split
    · exact List.mem_cons_of_mem _ (maxL_mem (by simp))
    · exact List.mem_cons_self
theorem maxL_le : ∀ {xs : List Int} {y : Int}, y ∈ xs → y ≤ maxL xs
  | [x], y, h => by
    have : y = x := by simpa using h
    subst this
    exact Int.le_refl _
  | x :: z :: r, y, h => by
    unfold maxL
    rcases List.mem_cons.mp h with rfl | h
    · split <;> omega
    · have := maxL_le (xs := z :: r) h
      split <;> omega
theorem maxL_eq {xs : List Int} {m : Int} (h1 : m ∈ xs) (h2 : ∀ y, y ∈ xs → y ≤ m) : m = maxL xs :=
  Int.le_antisymm (maxL_le h1) (h2 _ (maxL_mem (fun z => by subst z; cases h1)))
theorem maxL_le_iff {xs : List Int} {b : Int} (h : xs ≠ []) : maxL xs ≤ b ↔ ∀ y, y ∈ xs → y ≤ b :=
  ⟨fun h2 y hy => Int.le_trans (maxL_le hy) h2, fun h2 => h2 _ (maxL_mem h)⟩
theorem ev_max (h : EvL te σ H (xs.map V.int)) (hn : xs ≠ []) : Ev (tCB (rMax K) (tCons te tNil)) σ H (.int (maxL xs)) := fun H1 e Q q =>
  h H1 e _ fun p H2 hp e2 h2 => ⟨p, xs, rfl, sq_of h2, List.length_pos_iff.mpr hn, fun m hm hle => by
    rw [maxL_eq hm hle]
    exact q H2 e2⟩
theorem ev_maxN (h : Ev te σ H (.ref a)) (hL : LI K H a xs) (hn : xs ≠ []) : Ev (tCB (rMax K) (tCons te tNil)) σ H (.int (maxL xs)) := fun H1 e Q q =>
  h H1 e _ fun H2 e2 => ⟨a, xs, rfl, hL.mono (e.trans e2), List.length_pos_iff.mpr hn, fun m hm hle => by
    rw [maxL_eq hm hle]
    exact q H2 e2⟩
/-- [te for x in xs] of ints, over the rows of a list of lists, over a list of ints -/
theorem el_lcRows {tl : TE} {j : Nat} {ws : List Nat} (g : List Int → Int) (h : Ev tl σ H (.ref a)) (hM : LLI K H a M) (hz : M.length ≤ 40000) (hw : ∀ x, wipe ((wipe σ ws).set j (some x)) ws = wipe σ ws)
    (he : ∀ x r H1, Ex H H1 → r ∈ M → LI K H1 x r → Ev te ((wipe σ ws).set j (some (.ref x))) H1 (.int (g r))) : EvL (tLc (iList K tl) (gName j) tYes te ws) σ H ((M.map g).map V.int) := by
  obtain ⟨as, h1, h2⟩ := hM
  have hl := h2.length
  have := el_lcL (K := K) (te := te) (t := tYes) (fun _ => true) (fun i => .int (g (M.getD i []))) h h1 (by rw [List.length_map]; omega) hw (fun _ _ _ _ _ _ _ Q q => q _ (Ex.refl _)) (fun i x H1 e1 hx _ => by
    rw [List.getElem?_map] at hx
    cases hy : as[i]? with
    | none => rw [hy] at hx; cases hx
    | some y =>
      rw [hy] at hx
      cases hx
      obtain ⟨r, q1, q2⟩ := paired_getL h2 hy
      rw [List.getD_eq_getElem?_getD, q1]
      exact he y r H1 e1 (List.mem_of_getElem? q1) (q2.mono e1))
  unfold given at this
  rw [filt_all, List.length_map, hl] at this
  have e : (List.range M.length).map (fun i => V.int (g (M.getD i []))) = (M.map g).map V.int := by
    rw [List.map_map]
    conv => rhs; rw [list_eq_range' [] M]
    rw [List.map_map]; rfl
  rw [e] at this
  exact this
where
  list_eq_range' {α : Type} (d : α) (l : List α) : l = (List.range l.length).map fun i => l.getD i d := by
    apply List.ext_getElem
    · simp
    · intro i h1 h2
      simp [List.getD_eq_getElem?_getD, h1]
theorem el_lcInts {tl : TE} {j : Nat} {ws : List Nat} (g : Int → Int) (h : Ev tl σ H (.ref a)) (hM : LI K H a xs) (hz : xs.length ≤ 40000) (hw : ∀ x, wipe ((wipe σ ws).set j (some x)) ws = wipe σ ws)
    (he : ∀ x H1, Ex H H1 → Ev te ((wipe σ ws).set j (some (.int x))) H1 (.int (g x))) : EvL (tLc (iList K tl) (gName j) tYes te ws) σ H ((xs.map g).map V.int) := by
  have := el_lcL (K := K) (te := te) (t := tYes) (fun _ => true) (fun i => .int (g (xs.getD i 0))) h hM (by rw [List.length_map]; omega) hw (fun _ _ _ _ _ _ _ Q q => q _ (Ex.refl _)) (fun i x H1 e1 hx _ => by
    rw [List.getElem?_map] at hx
    cases hy : xs[i]? with
    | none => rw [hy] at hx; cases hx
    | some y =>
      rw [hy] at hx
      cases hx
      rw [List.getD_eq_getElem?_getD, hy]
      exact he y H1 e1)
  unfold given at this
  rw [filt_all, List.length_map] at this
  have e : (List.range xs.length).map (fun i => V.int (g (xs.getD i 0))) = (xs.map g).map V.int := by
    rw [List.map_map]
    apply List.ext_getElem
    · simp
    · intro i h1 h2
      simp at h1
      simp [List.getD_eq_getElem?_getD, h1]
  rw [e] at this
  exact this
end
/-! ### calls of the known defs -/
end AT

/-! ## chains of comparisons, ifs on a known number, rows changed -/
namespace AT
open PySem PySem.Spec PyProof.Rows L2 Evl
section
variable {K : Frag} {σ : St} {H H0 H1 H' : Hp} {ta tb tc te t1 t2 : TE} {t : TT} {a b p r : Addr} {M : List (List Int)} {xs : List Int} {x y z v : V} {R Ra Rb : R3} {D : Ends} {tu tz : TS}
theorem ev_chain {r r' : R2} {k1 k2 : Bool} (ha : Ev ta σ H x) (hb : Ev tb σ H y) (hr : RV r x y H (.bl k1)) (hc : Ev tc σ H z) (hr' : RV r' y z H (.bl k2)) : Ev (tChain r r' ta tb tc) σ H (.bl (k1 && k2)) := fun H1 e Q q =>
  ha H1 e _ fun H2 e2 => hb H2 (e.trans e2) _ fun H3 e3 => hr H3 ((e.trans e2).trans e3) _ fun H4 e4 => ⟨k1, rfl, by
    cases k1 with
    | false =>
      rw [if_neg Bool.false_ne_true]
      exact q H4 ((e2.trans e3).trans e4)
    | true =>
      rw [if_pos rfl]
      exact hc H4 (((e.trans e2).trans e3).trans e4) _ fun H5 e5 => hr' H5 ((((e.trans e2).trans e3).trans e4).trans e5) _ fun H6 e6 => q H6 (((e2.trans e3).trans e4).trans (e5.trans e6))⟩
theorem q_skip {i : Nat} {m k : Int} (h : σ[i]? = some (some (.int m))) (hm : m ≠ k) (q : tz D σ H) : tSeq (tIfS (tTest (tOp rEq (tVar i) (tC (.int k)))) tu tNext) tz D σ H :=
  ⟨.int m, h, rfl, _, rfl, by
    have : ¬ (V.int m = V.int k) := fun e => hm (by injection e)
    show (if decide (V.int m = V.int k) = true then _ else _)
    rw [if_neg (by simp [this])]
    exact q⟩
theorem q_take {i : Nat} {m k : Int} (h : σ[i]? = some (some (.int m))) (hm : m = k) (q : tu { D with nx := tz D } σ H) : tSeq (tIfS (tTest (tOp rEq (tVar i) (tC (.int k)))) tu tNext) tz D σ H :=
  ⟨.int m, h, rfl, _, rfl, by
    subst hm
    show (if decide (V.int m = V.int m) = true then _ else _)
    rw [if_pos (by simp)]
    exact q⟩
theorem s_skip {i : Nat} {m k : Int} (h : σ[i]? = some (some (.int m))) (hm : m ≠ k) (q : D.nx σ H) : tIfS (tTest (tOp rEq (tVar i) (tC (.int k)))) tu tNext D σ H :=
  ⟨.int m, h, rfl, _, rfl, by
    have : ¬ (V.int m = V.int k) := fun e => hm (by injection e)
    show (if decide (V.int m = V.int k) = true then _ else _)
    rw [if_neg (by simp [this])]
    exact q⟩
theorem s_take {i : Nat} {m k : Int} (h : σ[i]? = some (some (.int m))) (hm : m = k) (q : tu D σ H) : tIfS (tTest (tOp rEq (tVar i) (tC (.int k)))) tu tNext D σ H :=
  ⟨.int m, h, rfl, _, rfl, by
    subst hm
    show (if decide (V.int m = V.int m) = true then _ else _)
    rw [if_pos (by simp)]
    exact q⟩
theorem paired_eraseIdx {α β : Type} {F : α → β → Prop} : ∀ {l₁ : List α} {l₂ : List β} (n : Nat), Paired F l₁ l₂ → Paired F (l₁.eraseIdx n) (l₂.eraseIdx n)
  | _, _, _, .nil => by simp only [List.eraseIdx_nil]; exact .nil
  | _, _, 0, .cons _ t => t
  | _, _, n + 1, .cons r t => .cons r (paired_eraseIdx n t)
theorem map_erase {α β : Type} (f : α → β) : ∀ (l : List α) (i : Nat), (l.map f).eraseIdx i = (l.eraseIdx i).map f
  | [], i => by simp
  | a :: r, 0 => rfl
  | a :: r, n + 1 => by simp [map_erase f r n]
/-- a row of a tracked list of lists, and what becomes of all where it is put otherwise -/
theorem OLLI.row_upd {i : Nat} {row : List Int} (h : OLLI H0 H p M) (e : M[i]? = some row) : ∃ (as : List Addr) (x : Addr), H p = some (.lst (as.map V.ref)) ∧ as[i]? = some x ∧ H0 x = none ∧ H x = some (.lst (row.map V.int)) ∧
    ∀ H1 row', Ex H H1 → OLLI H0 (upd H1 x (.lst (row'.map V.int))) p (M.set i row') := by
  obtain ⟨as, h0, h1, hn, h2⟩ := h
  obtain ⟨x, ex, qx⟩ := paired_get h2 e
  refine ⟨as, x, h1, ex, qx.1, qx.2, fun H1 row' eH => ?_⟩
  rw [List.nodup_cons] at hn
  have hxm : x ∈ as := List.mem_of_getElem? ex
  have hpx : p ≠ x := fun z => hn.1 (z ▸ hxm)
  refine ⟨as, h0, by rw [upd_ne hpx]; exact eH _ _ h1, List.nodup_cons.mpr hn, ?_⟩
  refine paired_of (by rw [List.length_set, h2.length]) fun k y r hy hr => ?_
  by_cases hk : k = i
  · subst hk
    rw [ex] at hy; cases hy
    have hlt : k < M.length := (List.getElem?_eq_some_iff.mp e).1
    rw [List.getElem?_set_self hlt] at hr
    cases hr
    exact ⟨qx.1, upd_same⟩
  · rw [List.getElem?_set_ne (Ne.symm hk)] at hr
    obtain ⟨z, hz, qz⟩ := paired_get h2 hr
    rw [hy] at hz; cases hz
    have hne : y ≠ x := fun e2 => hk (by
      subst e2
      obtain ⟨a1, b1⟩ := List.getElem?_eq_some_iff.mp hy
      obtain ⟨a2, b2⟩ := List.getElem?_eq_some_iff.mp ex
      exact (List.getElem_inj hn.2).mp (b1.trans b2.symm))
    exact ⟨qz.1, by rw [upd_ne hne]; exact eH _ _ qz.2⟩
theorem OLLI.erase (h : OLLI H0 H p M) (i : Nat) : ∃ vs : List V, H p = some (.lst vs) ∧ vs.length = M.length ∧ ∀ H1, Ex H H1 → OLLI H0 (upd H1 p (.lst (vs.eraseIdx i))) p (M.eraseIdx i) := by
  obtain ⟨as, h0, h1, hn, h2⟩ := h
  refine ⟨as.map V.ref, h1, by rw [List.length_map, h2.length], fun H1 e => ⟨as.eraseIdx i, h0, ?_, ?_, ?_⟩⟩
  · rw [upd_same, map_erase]
  · rw [List.nodup_cons] at hn ⊢
    exact ⟨fun hm => hn.1 ((List.eraseIdx_sublist as i).subset hm), hn.2.sublist (List.eraseIdx_sublist as i)⟩
  · rw [List.nodup_cons] at hn
    have h3 : Paired (fun x r => OLI H0 H1 x r) as M := paired_mono h2 fun _ _ q => q.mono e
    refine paired_mem_mono (paired_eraseIdx i h3) fun x r hx q => ⟨q.1, ?_⟩
    have hxa : x ∈ as := (List.eraseIdx_sublist as i).subset hx
    rw [upd_ne (fun z : x = p => hn.1 (z ▸ hxa))]
    exact q.2
theorem seqIx {i n : Nat} (h : i < n) : seqIndex? (i : Int) n = some i := by
  unfold seqIndex?
  have e : (if (i : Int) < 0 then (i : Int) + (n : Int) else (i : Int)) = (i : Int) := if_neg (by omega)
  simp only [e]
  rw [if_pos (by simp; omega)]
  simp
/-- [te] of a new list -/
theorem er_lstM {row : List Int} (h : Er te σ H (RL row)) : Er (tLst (tCons te tNil)) σ H (RM [row]) := fun H1 e Q q =>
  h H1 e (fun x H2 => [x].length ≤ sizeLine ∧ ∀ p, H2 p = none → Q (.ref p) (upd H2 p (.lst [x]))) fun v H2 e2 ⟨r, hv, hr, hr2⟩ => by
    subst hv
    exact ⟨by show 1 ≤ sizeLine; decide, fun p hp => q _ _ (e2.trans (Ex.new hp)) ⟨p, rfl, [r], fresh_back e2 hp, upd_same, by simpa using (ne_of_none hr2 hp).symm, .cons ⟨hr, by rw [upd_ne (ne_of_none hr2 hp)]; exact hr2⟩ .nil⟩⟩
/-- a call for its own sake, the first argument new -/
theorem s_dropR1 {sp : Sp} {E : XK} {dvs : List V} {ta : TA} (h1 : Er te σ H R) (k : ∀ v H1, Ex H H1 → R H H1 v → ta σ H1 (fun vs H2 => sp ((v :: vs) ++ dvs) H2 (fun _ H3 => D.nx σ H3) E)) : tDrop (tCall sp dvs E (tCons te ta)) D σ H :=
  h1 H (Ex.refl _) (fun x H2 => ta σ H2 fun xs H3 => sp ((x :: xs) ++ dvs) H3 (fun _ H4 => D.nx σ H4) E) k
/-- x = f(..) in a try, f(..) in a try -/
theorem s_asgS {sp : Sp} {Ef : L2.St → XK} {i : Nat} {ta : TA} {vs : List V} (h : EvA ta σ H vs) (k : ∀ H1, Ex H H1 → sp vs H1 (fun v H2 => D.nx (σ.set i (some v)) H2) (Ef σ)) : tAsg (tCallS sp Ef ta) (gName i) D σ H := h H (Ex.refl H) _ k
theorem s_dropS {sp : Sp} {Ef : L2.St → XK} {ta : TA} {vs : List V} (h : EvA ta σ H vs) (k : ∀ H1, Ex H H1 → sp vs H1 (fun _ H2 => D.nx σ H2) (Ef σ)) : tDrop (tCallS sp Ef ta) D σ H := h H (Ex.refl H) _ k
/-- xs.pop(i) as a statement -/
theorem s_popAt {l : Addr} {vs : List V} {i : Nat} (hl : H l = some (.lst vs)) (ha : Ev ta σ H (.ref l)) (hi : Ev tb σ H (.int (i : Int))) (hin : i < vs.length) (hs : vs.length ≤ 100000) (k : ∀ H1, Ex H H1 → D.nx σ (upd H1 l (.lst (vs.eraseIdx i)))) : tDrop (tBM K "list" rPopAt ta (tCons tb tNil)) D σ H :=
  ha H (Ex.refl H) _ fun H1 e1 => ⟨.inl ⟨rfl, vs, sq_of (e1 _ _ hl)⟩, hi H1 e1 _ fun H2 e2 => ⟨l, vs, (i : Int), i, vs[i], rfl, rfl, (e1.trans e2) _ _ hl, by omega, by omega, seqIx hin, List.getElem?_eq_getElem hin, k H2 (e1.trans e2)⟩⟩
end
end AT

/-! ## data that can be compared: < and its fellows -/
namespace AT
open PySem PySem.Spec PyProof.Rows L2 Evl
section
variable {X : Cx}
def rGtD (K : Frag) : R2 := fun x y H Q => ∃ d e, Dp K H x d ∧ Dp K H y e ∧ PySem.W.alike d e = true ∧ d ≠ .none ∧ d.depth ≤ 60 ∧ Q (.bl (PySem.W.dataLt e d)) H
def rLtD (K : Frag) : R2 := fun x y H Q => ∃ d e, Dp K H x d ∧ Dp K H y e ∧ PySem.W.alike d e = true ∧ d ≠ .none ∧ d.depth ≤ 60 ∧ Q (.bl (PySem.W.dataLt d e)) H
def rGeD (K : Frag) : R2 := fun x y H Q => ∃ d e, Dp K H x d ∧ Dp K H y e ∧ PySem.W.alike d e = true ∧ d ≠ .none ∧ d.depth ≤ 60 ∧ Q (.bl (!PySem.W.dataLt d e)) H
def rLeD (K : Frag) : R2 := fun x y H Q => ∃ d e, Dp K H x d ∧ Dp K H y e ∧ PySem.W.alike d e = true ∧ d ≠ .none ∧ d.depth ≤ 60 ∧ Q (.bl (!PySem.W.dataLt e d)) H
theorem gtDK (K : Frag) (hu : X.A.units + 64 < cLine) (h : X.K = K := by rfl) : OpR X (compareOp .Gt) (rGtD K) := by
  subst h
  intro pins s σ H x y v u Q I rx ry h
  obtain ⟨d, e, hd, he, ha, hn, hdp, q⟩ := h
  obtain ⟨as, r1⟩ := Dp.reads I d x v hd rx
  obtain ⟨bs, r2⟩ := Dp.reads I e y u he ry
  exact PySem.W.gt_data r1 r2 ha hn (by omega) ⟨.bl _, H, I, rfl, q⟩
theorem ltDK (K : Frag) (hu : X.A.units + 64 < cLine) (h : X.K = K := by rfl) : OpR X (compareOp .Lt) (rLtD K) := by
  subst h
  intro pins s σ H x y v u Q I rx ry h
  obtain ⟨d, e, hd, he, ha, hn, hdp, q⟩ := h
  obtain ⟨as, r1⟩ := Dp.reads I d x v hd rx
  obtain ⟨bs, r2⟩ := Dp.reads I e y u he ry
  exact PySem.W.lt_data r1 r2 ha hn (by omega) ⟨.bl _, H, I, rfl, q⟩
theorem geDK (K : Frag) (hu : X.A.units + 64 < cLine) (h : X.K = K := by rfl) : OpR X (compareOp .GtE) (rGeD K) := by
  subst h
  intro pins s σ H x y v u Q I rx ry h
  obtain ⟨d, e, hd, he, ha, hn, hdp, q⟩ := h
  obtain ⟨as, r1⟩ := Dp.reads I d x v hd rx
  obtain ⟨bs, r2⟩ := Dp.reads I e y u he ry
  exact PySem.W.ge_data r1 r2 ha hn (by omega) ⟨.bl _, H, I, rfl, q⟩
theorem leDK (K : Frag) (hu : X.A.units + 64 < cLine) (h : X.K = K := by rfl) : OpR X (compareOp .LtE) (rLeD K) := by
  subst h
  intro pins s σ H x y v u Q I rx ry h
  obtain ⟨d, e, hd, he, ha, hn, hdp, q⟩ := h
  obtain ⟨as, r1⟩ := Dp.reads I d x v hd rx
  obtain ⟨bs, r2⟩ := Dp.reads I e y u he ry
  exact PySem.W.le_data r1 r2 ha hn (by omega) ⟨.bl _, H, I, rfl, q⟩
end
section
variable {K : Frag} {H : Hp} {α : Type} [DecidableEq α] [PySem.W.DatumOrd α] {x y : V} {a b : α}
theorem rv_gtD (hx : ∀ H1, Ex H H1 → Dp K H1 x (PySem.W.Datum.toD a)) (hy : ∀ H1, Ex H H1 → Dp K H1 y (PySem.W.Datum.toD b)) (hd : PySem.W.Datum.depth α ≤ 60) : RV (rGtD K) x y H (.bl (PySem.W.DatumOrd.lt b a)) := fun H1 e Q q =>
  ⟨_, _, hx H1 e, hy H1 e, PySem.W.DatumOrd.alike a b, PySem.W.DatumOrd.notNone a, Nat.le_trans (PySem.W.Datum.depth_le a) hd, by rw [PySem.W.DatumOrd.lt_eq]; exact q H1 (Ex.refl _)⟩
theorem rv_ltD (hx : ∀ H1, Ex H H1 → Dp K H1 x (PySem.W.Datum.toD a)) (hy : ∀ H1, Ex H H1 → Dp K H1 y (PySem.W.Datum.toD b)) (hd : PySem.W.Datum.depth α ≤ 60) : RV (rLtD K) x y H (.bl (PySem.W.DatumOrd.lt a b)) := fun H1 e Q q =>
  ⟨_, _, hx H1 e, hy H1 e, PySem.W.DatumOrd.alike a b, PySem.W.DatumOrd.notNone a, Nat.le_trans (PySem.W.Datum.depth_le a) hd, by rw [PySem.W.DatumOrd.lt_eq]; exact q H1 (Ex.refl _)⟩
theorem rv_geD (hx : ∀ H1, Ex H H1 → Dp K H1 x (PySem.W.Datum.toD a)) (hy : ∀ H1, Ex H H1 → Dp K H1 y (PySem.W.Datum.toD b)) (hd : PySem.W.Datum.depth α ≤ 60) : RV (rGeD K) x y H (.bl (!PySem.W.DatumOrd.lt a b)) := fun H1 e Q q =>
  ⟨_, _, hx H1 e, hy H1 e, PySem.W.DatumOrd.alike a b, PySem.W.DatumOrd.notNone a, Nat.le_trans (PySem.W.Datum.depth_le a) hd, by rw [PySem.W.DatumOrd.lt_eq]; exact q H1 (Ex.refl _)⟩
theorem rv_leD (hx : ∀ H1, Ex H H1 → Dp K H1 x (PySem.W.Datum.toD a)) (hy : ∀ H1, Ex H H1 → Dp K H1 y (PySem.W.Datum.toD b)) (hd : PySem.W.Datum.depth α ≤ 60) : RV (rLeD K) x y H (.bl (!PySem.W.DatumOrd.lt b a)) := fun H1 e Q q =>
  ⟨_, _, hx H1 e, hy H1 e, PySem.W.DatumOrd.alike a b, PySem.W.DatumOrd.notNone a, Nat.le_trans (PySem.W.Datum.depth_le a) hd, by rw [PySem.W.DatumOrd.lt_eq]; exact q H1 (Ex.refl _)⟩
end
abbrev ltI (xs ys : List Int) : Bool := PySem.W.listLt xs ys
abbrev ltM (M N : List (List Int)) : Bool := PySem.W.listLt M N
theorem toD_I (xs : List Int) : PySem.W.Datum.toD xs = PyData.list (dI xs) := rfl
theorem toD_M (M : List (List Int)) : PySem.W.Datum.toD M = PyData.list (dM M) := rfl
theorem rv_gtI {K : Frag} {H : Hp} {a b : Addr} {xs ys : List Int} (ha : LI K H a xs) (hb : LI K H b ys) : RV (rGtD K) (.ref a) (.ref b) H (.bl (ltI ys xs)) :=
  rv_gtD (a := xs) (b := ys) (fun H1 e => (ha.mono e).dp) (fun H1 e => (hb.mono e).dp) (by decide)
end AT

/-! ## the least of data -/
namespace AT
open PySem PySem.Spec PyProof.Rows L2 Evl
section
variable {X : Cx}
def rMinD (K : Frag) : List V → Hp → VK → Prop := fun vs H Q => ∃ (a : Addr) (xs : List V) (d : PyData) (ds : List PyData), vs = [V.ref a] ∧ SqL K H a xs ∧ DpAll K H xs (d :: ds) ∧ PySem.W.AlikeAll (d :: ds) ∧ PyData.depthAll (d :: ds) ≤ 60 ∧
  ∀ (i : Nat) v, xs[i]? = some v → (d :: ds)[i]? = some (PySem.W.minD d ds) → Q v H
theorem minDK (K : Frag) (hc : X.calm = true) (hu : X.A.units + 64 < cLine) (h : X.K = K := by rfl) : CallR X (.builtin "min") (rMinD K) := by
  subst h
  intro pins s σ H vs us Q I r h
  obtain ⟨a, xs, d, ds, rfl, hs, hD, ha, hdp, q⟩ := h
  obtain ⟨its, rv, hl, _⟩ := I.list hs
  rw [Vals.ref1 r]
  obtain ⟨as, hr⟩ := Dp.readsAll I (d :: ds) xs its hD rv
  refine PySem.W.min_list_data (vs := its.toArray) (I.ok.hd hc) hl.isList (show ReadsAll s.heap its.toArray.toList (d :: ds) as from hr) ha (by omega) fun i v h' tk bs hv r' hk => ?_
  have hv' : its[i]? = some v := by rw [← hv]; simp
  have hil : i < its.length := (List.getElem?_eq_some_iff.mp hv').1
  obtain ⟨x, hx⟩ : ∃ x, xs[i]? = some x := by
    have hlen := rv.length
    exact ⟨_, List.getElem?_eq_getElem (by omega)⟩
  obtain ⟨u, hu1, hu2⟩ := rv.get hx
  rw [hv'] at hu1
  injection hu1 with hu1
  subst hu1
  obtain ⟨cs, r1, hil2, hmem, _⟩ := PySem.W.readsAll_at hr i v hv'
  have hmin : PySem.W.minD d ds ∈ d :: ds := by
    unfold PySem.W.minD
    have key : ∀ (l : List PyData) (a : PyData), l.foldl (fun a y => if PySem.W.dataLt y a then y else a) a ∈ a :: l := fun l => by
      induction l with
      | nil => exact fun a => List.mem_cons_self
      | cons y l ih =>
        intro a
        rw [List.foldl_cons]
        have := ih (if PySem.W.dataLt y a then y else a)
        rcases List.mem_cons.mp this with h | h
        · rw [h]
          split
          · exact List.mem_cons_of_mem _ List.mem_cons_self
          · exact List.mem_cons_self
        · exact List.mem_cons_of_mem _ (List.mem_cons_of_mem _ h)
    exact key ds d
  have e : (d :: ds).getD i PyData.none = PySem.W.minD d ds := PySem.W.alike_unique _ _ v _ _ (ha.1 _ hmem _ hmin) (Reads.keeps hk r1) r'
  refine ⟨x, H, I.kept hk, hu2, q i x hx ?_⟩
  rw [← e, List.getD_eq_getElem?_getD, List.getElem?_eq_getElem hil2]
  rfl
end
/-! ### an order without ties -/
structure Lin (α : Type) [DecidableEq α] [PySem.W.DatumOrd α] : Prop where
  irr : ∀ a : α, PySem.W.DatumOrd.lt a a = false
  tr : ∀ a b c : α, PySem.W.DatumOrd.lt a b = true → PySem.W.DatumOrd.lt b c = true → PySem.W.DatumOrd.lt a c = true
  tot : ∀ a b : α, a ≠ b → PySem.W.DatumOrd.lt a b = true ∨ PySem.W.DatumOrd.lt b a = true
theorem lin_int : Lin Int := ⟨fun a => by show decide (a < a) = false; simp, fun a b c h1 h2 => by
  have h1 : decide (a < b) = true := h1
  have h2 : decide (b < c) = true := h2
  show decide (a < c) = true
  rw [decide_eq_true_eq] at *
  omega, fun a b h => by
  show decide (a < b) = true ∨ decide (b < a) = true
  rw [decide_eq_true_eq, decide_eq_true_eq]
  omega⟩
section
variable {α : Type} [DecidableEq α] [PySem.W.DatumOrd α]
theorem lex_irr (L : Lin α) : ∀ xs : List α, PySem.W.listLt xs xs = false
  | [] => rfl
  | x :: xs => by
    rw [PySem.W.listLt, if_pos rfl]
    exact lex_irr L xs
theorem lex_tr (L : Lin α) : ∀ xs ys zs : List α, PySem.W.listLt xs ys = true → PySem.W.listLt ys zs = true → PySem.W.listLt xs zs = true
  | [], [], _, h, _ => by cases h
  | [], _ :: _, [], _, h => by cases h
  | [], _ :: _, _ :: _, _, _ => rfl
  | _ :: _, [], _, h, _ => by cases h
  | _ :: _, _ :: _, [], _, h => by cases h
  | x :: xs, y :: ys, z :: zs, h1, h2 => by
    rw [PySem.W.listLt] at h1 h2 ⊢
    by_cases e1 : x = y
    · subst e1
      rw [if_pos rfl] at h1
      by_cases e2 : x = z
      · rw [if_pos e2] at h2 ⊢
        exact lex_tr L xs ys zs h1 h2
      · rw [if_neg e2] at h2 ⊢
        exact h2
    · rw [if_neg e1] at h1
      by_cases e2 : y = z
      · subst e2
        rw [if_neg e1]
        exact h1
      · rw [if_neg e2] at h2
        have h3 := L.tr x y z h1 h2
        by_cases e3 : x = z
        · subst e3
          rw [L.irr x] at h3
          cases h3
        · rw [if_neg e3]
          exact h3
theorem lex_tot (L : Lin α) : ∀ xs ys : List α, xs ≠ ys → PySem.W.listLt xs ys = true ∨ PySem.W.listLt ys xs = true
  | [], [], h => absurd rfl h
  | [], _ :: _, _ => .inl rfl
  | _ :: _, [], _ => .inr rfl
  | x :: xs, y :: ys, h => by
    rw [PySem.W.listLt, PySem.W.listLt]
    by_cases e : x = y
    · rw [if_pos e, if_pos e.symm]
      exact lex_tot L xs ys fun z => h (by rw [e, z])
    · rw [if_neg e, if_neg (Ne.symm e)]
      exact L.tot x y e
theorem lin_list (L : Lin α) : Lin (List α) := ⟨lex_irr L, lex_tr L, lex_tot L⟩
theorem minOf_mem : ∀ (xs : List α) (x : α), PySem.W.minOf x xs ∈ x :: xs
  | [], x => List.mem_cons_self
  | y :: xs, x => by
    have e : PySem.W.minOf x (y :: xs) = PySem.W.minOf (if PySem.W.DatumOrd.lt y x = true then y else x) xs := rfl
    rw [e]
    rcases List.mem_cons.mp (minOf_mem xs (if PySem.W.DatumOrd.lt y x = true then y else x)) with h | h
    · rw [h]
      split
      · exact List.mem_cons_of_mem _ List.mem_cons_self
      · exact List.mem_cons_self
    · exact List.mem_cons_of_mem _ (List.mem_cons_of_mem _ h)
theorem lin_nlt (L : Lin α) {a b c : α} (h1 : PySem.W.DatumOrd.lt b a = false) (h2 : PySem.W.DatumOrd.lt c b = false) : PySem.W.DatumOrd.lt c a = false := by
  by_cases e1 : a = b
  · rw [e1]; exact h2
  · by_cases e2 : b = c
    · rw [← e2]; exact h1
    · have h3 := (L.tot a b e1).resolve_right (by rw [h1]; decide)
      have h4 := (L.tot b c e2).resolve_right (by rw [h2]; decide)
      have h5 := L.tr a b c h3 h4
      cases h : PySem.W.DatumOrd.lt c a with
      | false => rfl
      | true =>
        have := L.tr a c a h5 h
        rw [L.irr a] at this
        cases this
theorem minOf_le (L : Lin α) : ∀ (xs : List α) (x : α), ∀ y ∈ x :: xs, PySem.W.DatumOrd.lt y (PySem.W.minOf x xs) = false
  | [], x, y, hy => by
    rw [List.mem_singleton.mp hy]
    exact L.irr x
  | z :: xs, x, y, hy => by
    have e : PySem.W.minOf x (z :: xs) = PySem.W.minOf (if PySem.W.DatumOrd.lt z x = true then z else x) xs := rfl
    rw [e]
    have ih := minOf_le L xs (if PySem.W.DatumOrd.lt z x = true then z else x)
    rcases List.mem_cons.mp hy with rfl | hy
    · have h1 := ih _ List.mem_cons_self
      refine lin_nlt L h1 ?_
      split
      · rename_i h
        cases h2 : PySem.W.DatumOrd.lt y z with
        | false => rfl
        | true =>
          have := L.tr _ _ _ h h2
          rw [L.irr] at this
          cases this
      · exact L.irr y
    · rcases List.mem_cons.mp hy with rfl | hy
      · have h1 := ih _ List.mem_cons_self
        refine lin_nlt L h1 ?_
        split
        · exact L.irr y
        · rename_i h
          simpa using h
      · exact ih y (List.mem_cons_of_mem _ hy)
theorem min_uniq (L : Lin α) {x x' : α} {xs xs' : List α} (h : ∀ y, y ∈ x :: xs ↔ y ∈ x' :: xs') : PySem.W.minOf x xs = PySem.W.minOf x' xs' := by
  have h1 := minOf_le L xs x _ ((h _).mpr (minOf_mem xs' x'))
  have h2 := minOf_le L xs' x' _ ((h _).mp (minOf_mem xs x))
  by_cases e : PySem.W.minOf x xs = PySem.W.minOf x' xs'
  · exact e
  · rcases L.tot _ _ e with z | z
    · rw [h2] at z; cases z
    · rw [h1] at z; cases z
theorem toD_inj {a b : α} (h : PySem.W.Datum.toD a = PySem.W.Datum.toD b) : a = b := by
  have h1 := PySem.W.Datum.eqv a b
  rw [h, PySem.W.Datum.eqv b b] at h1
  exact of_decide_eq_true (by rw [← h1]; simp)
end
abbrev Mat := List (List Int)
theorem lin_M : Lin Mat := lin_list (lin_list lin_int)
/-- the least of them, none of none -/
def minL : List Mat → Mat
  | [] => []
  | x :: xs => PySem.W.minOf x xs
theorem minL_mem {l : List Mat} (h : l ≠ []) : minL l ∈ l := by
  cases l with
  | nil => exact absurd rfl h
  | cons x xs => exact minOf_mem xs x
theorem minL_eq {l l' : List Mat} (h : ∀ y, y ∈ l ↔ y ∈ l') : minL l = minL l' := by
  cases l with
  | nil =>
    cases l' with
    | nil => rfl
    | cons x xs => exact absurd ((h x).mpr List.mem_cons_self) (by simp)
  | cons x xs =>
    cases l' with
    | nil => exact absurd ((h x).mp List.mem_cons_self) (by simp)
    | cons y ys => exact min_uniq lin_M h
section
variable {K : Frag} {σ : St} {H : Hp} {te : TE}
theorem dpAll_RM {H1 H2 : Hp} {M : Nat → Mat} : ∀ {vs : List V} {idx : List Nat}, Paired (fun v j => RM (M j) H1 H2 v) vs idx → DpAll K H2 vs (idx.map fun j => PySem.W.Datum.toD (M j))
  | _, _, .nil => .nil
  | _, _, .cons ⟨_, hv, hO⟩ t => by
    subst hv
    exact .cons hO.lli.dp (dpAll_RM t)
theorem er_minRM {idx : List Nat} {M : Nat → Mat} (h : Er te σ H (RLs idx fun i => RM (M i))) (hne : idx ≠ []) : Er (tCB (rMinD K) (tCons te tNil)) σ H (RM (minL (idx.map M))) := fun H1 e Q q =>
  h H1 e _ fun v H2 e2 ⟨p, vs, hv, hp, hp2, hP⟩ => by
    subst hv
    cases idx with
    | nil => exact absurd rfl hne
    | cons i0 idx =>
      have hmap : ∀ l : List Nat, (l.map fun j => (PySem.W.Datum.toD (M j) : PyData)) = (l.map M).map PySem.W.Datum.toD := fun l => by rw [List.map_map]; rfl
      have hD := dpAll_RM (K := K) hP
      rw [hmap] at hD
      refine ⟨p, vs, PySem.W.Datum.toD (M i0), (idx.map M).map PySem.W.Datum.toD, rfl, sq_of hp2, hD, ⟨fun x hx y hy => ?_, fun x hx => ?_⟩, ?_, fun i v hvi hdi => ?_⟩
      · obtain ⟨x, _, rfl⟩ := List.mem_map.mp (show x ∈ (M i0 :: idx.map M).map PySem.W.Datum.toD from hx)
        obtain ⟨y, _, rfl⟩ := List.mem_map.mp (show y ∈ (M i0 :: idx.map M).map PySem.W.Datum.toD from hy)
        exact PySem.W.DatumOrd.alike x y
      · obtain ⟨x, _, rfl⟩ := List.mem_map.mp (show x ∈ (M i0 :: idx.map M).map PySem.W.Datum.toD from hx)
        exact PySem.W.DatumOrd.notNone x
      · exact Nat.le_trans (PySem.W.depthAll_map (M i0 :: idx.map M)) (by decide)
      · obtain ⟨j, hj1, hj2⟩ := paired_getL hP hvi
        rw [PySem.W.minD_map] at hdi
        have h3 : ((M i0 :: idx.map M).map PySem.W.Datum.toD)[i]? = some (PySem.W.Datum.toD (PySem.W.minOf (M i0) (idx.map M))) := hdi
        rw [← List.map_cons, List.getElem?_map, List.getElem?_map, hj1] at h3
        have h4 : PySem.W.Datum.toD (M j) = PySem.W.Datum.toD (PySem.W.minOf (M i0) (idx.map M)) := Option.some.inj h3
        have h5 : M j = minL ((i0 :: idx).map M) := toD_inj h4
        refine q v H2 e2 ?_
        rw [← h5]
        exact hj2
end
end AT

/-! ## // of any size; [.. for x, y in zip(a, b)]; rows put in their place -/
namespace AT
open PySem PySem.Spec PyProof.Rows L2 Evl
def CFdX (_ j : Int) : Prop := j ≠ 0 ∧ j.natAbs.log2 < 9000
theorem op_fdivX {X : Cx} : OpR X (binaryOp .FloorDiv) (rI CFdX fun i j => .int (i.fdiv j)) := opI fun _ _ _ _ _ _ _ hc q => floordiv_int hc.1 q (.inl (PyProof.noPylong_of_log2 hc.2))
section
variable {K : Frag} {σ : St} {H H0 : Hp} {te ta tb : TE} {a b p : Addr} {D : Ends} {tz : TS}
theorem el_lcZ {tA : TA} {i1 i2 : Nat} {vs : List Nat} {xs ys : List V} (v : Nat → V) (h : EvA tA σ H [.ref a, .ref b]) (ha : SqL K H a xs) (hb : SqL K H b ys) (hl : xs.length = ys.length) (hz : xs.length ≤ 40000)
    (hw : ∀ x y, wipe (((wipe σ vs).set i1 (some x)).set i2 (some y)) vs = wipe σ vs)
    (he : ∀ (i : Nat) x y H1, Ex H H1 → xs[i]? = some x → ys[i]? = some y → Ev te (((wipe σ vs).set i1 (some x)).set i2 (some y)) H1 (v i)) :
    EvL (tLc (iZip K tA) (gTup K 2 (gCons (gName i1) (gCons (gName i2) gNil))) tYes te vs) σ H (given xs.length (fun _ => true) v) := fun H0 e Q q => h H0 e _ fun H1 e1 =>
  ⟨a, b, xs, ys, rfl, ex_l (e.trans e1) ha, ex_l (e.trans e1) hb, fun Dl hD =>
    lc_it (walk_zip (xs := xs) (ys := ys) (n := xs.length) (by omega)) (Cw H1 (fun _ => true) v Dl) ⟨hD, Ex.new hD, upd_same⟩ (fun i H' _ p => ⟨ex_l ((e.trans e1).trans p.2.1) ha, ex_l ((e.trans e1).trans p.2.1) hb⟩)
      (fun i z H' H'' hi p ⟨T, x, y, hz', hT, hH, hx, hy⟩ => by
        subst hz'; subst hH
        have eT : Ex H' (upd H' T (.tup [x, y])) := Ex.new hT
        refine ⟨T, [x, y], rfl, st_of upd_same, rfl, x, [y], rfl, y, [], rfl, rfl, hw x y, ?_⟩
        exact cw_turn (f := fun _ => true) ⟨p.1, p.2.1.trans eT, eT _ _ p.2.2⟩ (by omega) (fun G1 g1 Q' q' => q' G1 (Ex.refl _)) fun _ => he i x y H1 (e.trans e1) hx hy)
      (fun H' p => q Dl H' (fresh_back e1 p.1) (e1.trans p.2.1) p.2.2)⟩
theorem given_all (n : Nat) (w : Nat → Int) : given n (fun _ => true) (fun j => .int (w j)) = ((List.range n).map w).map V.int := by
  unfold given
  rw [filt_all, List.map_map]
  rfl
/-- rows of our own list: each may stand anywhere, but not in the list's place -/
def RA (H0 H : Hp) (p : Addr) (M : List (List Int)) : Prop := H0 p = none ∧ ∃ as : List Addr, H p = some (.lst (as.map V.ref)) ∧ p ∉ as ∧ Paired (fun x r => H x = some (.lst (r.map V.int))) as M
theorem RA.mono {H' : Hp} {M : List (List Int)} (e : Ex H H') (h : RA H0 H p M) : RA H0 H' p M := by
  obtain ⟨h0, as, h1, h2, h3⟩ := h
  exact ⟨h0, as, e _ _ h1, h2, paired_mono h3 fun x r z => e _ _ z⟩
theorem RA.lli {M : List (List Int)} (h : RA H0 H p M) : LLI K H p M := by
  obtain ⟨h0, as, h1, h2, h3⟩ := h
  exact ⟨as, sq_of h1, paired_mono h3 fun x r z => sq_of z⟩
theorem OLLI.ra {M : List (List Int)} (h : OLLI H0 H p M) : RA H0 H p M := by
  obtain ⟨as, h1, h2, h3, h4⟩ := h
  rw [List.nodup_cons] at h3
  exact ⟨h1, as, h2, h3.1, paired_mono h4 fun x r z => z.2⟩
theorem paired_put {α β : Type} {F : α → β → Prop} : ∀ {l₁ : List α} {l₂ : List β} {i : Nat} {x : α} {y : β}, Paired F l₁ l₂ → F x y → Paired F (l₁.set i x) (l₂.set i y)
  | _, _, _, _, _, .nil, _ => .nil
  | _, _, 0, _, _, .cons _ t, h => .cons h t
  | _, _, i + 1, _, _, .cons r t, h => .cons r (paired_put t h)
/-- p[i] = a list of ints -/
theorem RA.put {M : List (List Int)} {i : Nat} (h : RA H0 H p M) : ∃ vs : List V, H p = some (.lst vs) ∧ vs.length = M.length ∧ ∀ H1 r row, Ex H H1 → H1 r = some (.lst (row.map V.int)) → r ≠ p → RA H0 (upd H1 p (.lst (vs.set i (.ref r)))) p (M.set i row) := by
  obtain ⟨h0, as, h1, h2, h3⟩ := h
  refine ⟨as.map V.ref, h1, by rw [List.length_map, h3.length], fun H1 r row e hr hne => ⟨h0, as.set i r, by rw [upd_same, List.map_set], ?_, ?_⟩⟩
  · intro hm
    rcases List.mem_or_eq_of_mem_set hm with hm | hm
    · exact h2 hm
    · exact hne hm.symm
  · have h4 : Paired (fun x r => H1 x = some (.lst (r.map V.int))) (as.set i r) (M.set i row) := paired_put (paired_mono h3 fun x r z => e _ _ z) hr
    refine paired_mem_mono h4 fun x r' hx z => ?_
    rw [upd_ne]
    · exact z
    · intro hxp
      subst hxp
      rcases List.mem_or_eq_of_mem_set hx with hm | hm
      · exact h2 hm
      · exact hne hm.symm
theorem s_setRow {M : List (List Int)} {i : Nat} {row : List Int} (h : RA H0 H p M) (he : EvL te σ H (row.map V.int)) (ho : Ev ta σ H (.ref p)) (hi : Ev tb σ H (.int (i : Int))) (hin : i < M.length) (e0 : Ex H0 H)
    (k : ∀ H1, Ex H0 H1 → RA H0 H1 p (M.set i row) → D.nx σ H1) : tAsg te (gSub ta tb rSetL) D σ H := by
  obtain ⟨vs, h1, h2, h3⟩ := h.put (i := i)
  refine he H (Ex.refl H) _ fun r H1 hr e1 hr1 => ho H1 e1 _ fun H2 e2 => hi H2 (e1.trans e2) _ fun H3 e3 => ?_
  have hne : r ≠ p := fun z => by
    subst z
    rw [h1] at hr
    cases hr
  exact ⟨p, vs, (i : Int), i, rfl, rfl, ((e1.trans e2).trans e3) p _ h1, ixN_nat (by omega), k _ (Ex.mut (((e0.trans e1).trans e2).trans e3) h.1) (h3 _ _ _ ((e1.trans e2).trans e3) ((e2.trans e3) _ _ hr1) hne)⟩
/-- p[i] = r, a row that stands -/
theorem q_setRef {M : List (List Int)} {i : Nat} {r : Addr} {row : List Int} (h : RA H0 H p M) (he : Ev te σ H (.ref r)) (hr : H r = some (.lst (row.map V.int))) (hne : r ≠ p) (ho : Ev ta σ H (.ref p)) (hi : Ev tb σ H (.int (i : Int))) (hin : i < M.length) (e0 : Ex H0 H)
    (k : ∀ H1, Ex H0 H1 → RA H0 H1 p (M.set i row) → (∀ (x : Addr) o, x ≠ p → H x = some o → H1 x = some o) → tz D σ H1) : tSeq (tAsg te (gSub ta tb rSetL)) tz D σ H := by
  obtain ⟨vs, h1, h2, h3⟩ := h.put (i := i)
  refine he H (Ex.refl H) _ fun H1 e1 => ho H1 e1 _ fun H2 e2 => hi H2 (e1.trans e2) _ fun H3 e3 => ?_
  exact ⟨p, vs, (i : Int), i, rfl, rfl, ((e1.trans e2).trans e3) p _ h1, ixN_nat (by omega), k _ (Ex.mut (((e0.trans e1).trans e2).trans e3) h.1) (h3 _ _ _ ((e1.trans e2).trans e3) (((e1.trans e2).trans e3) _ _ hr) hne) fun x o hx hH => by
    rw [upd_ne hx]
    exact ((e1.trans e2).trans e3) _ _ hH⟩
end
end AT

/-! ## a op b op c op d; sorted of data; in, not in, index of data -/
theorem L2.Room.units65 {k : Nat} {A : PySem.Around} (r : L2.Room k A) : A.units + 65 < PySem.cLine := by have := r.un; omega
namespace AT
open PySem PySem.Spec PyProof.Rows L2 Evl
section
variable {X : Cx} {a b c d : Expr} {ta tb tc td : TE} {pos : Pos}
def tChain3 (r r' r'' : R2) (ta tb tc td : TE) : TE := fun σ H Q => ta σ H fun x H1 => tb σ H1 fun y H2 => r x y H2 fun z H3 => ∃ k, z = .bl k ∧
  (if k = true then tc σ H3 fun w' H4 => r' y w' H4 fun z' H5 => ∃ k', z' = .bl k' ∧ (if k' = true then td σ H5 fun u' H6 => r'' w' u' H6 Q else Q (.bl false) H5) else Q (.bl false) H3)
theorem pe_chain3 {op op' op'' : CmpOp} {r r' r'' : R2} (ho : OpR X (compareOp op) r) (ho' : OpR X (compareOp op') r') (ho'' : OpR X (compareOp op'') r'') (ha : PE X a ta) (hb : PE X b tb) (hc : PE X c tc) (hd : PE X d td)
    (hm : lastMarks [op, op', op''] [b, c, d] = false := by with_unfolding_all rfl) : PE X (.Compare a [op, op', op''] [b, c, d] pos) (tChain3 r r' r'' ta tb tc td) := by
  refine ⟨fun pins s σ H Q I h => ?_⟩
  refine Compare_chain (thn (ha.run pins s σ H _ I h) fun v s1 ⟨x, H1, I1, r1, q1⟩ => chain_link (thn (hb.run pins s1 σ H1 _ I1 q1) fun u s2 ⟨y, H2, I2, r2, q2⟩ =>
    thn (ho pins s2 σ H2 x y v u _ I2 r1 r2 q2) fun d' s3 ⟨z, H3, I3, r3, k, e, q3⟩ => ?_)) hm
  subst e
  cases r3
  refine wpAny_truthy_bool ?_
  cases k with
  | false => exact ite_ff ⟨.bl false, H3, I3, rfl, q3⟩
  | true =>
    refine ite_tt (chain_link (thn (hc.run pins s3 σ H3 _ I3 q3) fun w' s4 ⟨z', H4, I4, r4, q4⟩ => thn (ho' pins s4 σ H4 y z' u w' _ I4 r2 r4 q4) fun d2 s5 ⟨z2, H5, I5, r5, k2, e2, q5⟩ => ?_))
    subst e2
    cases r5
    refine wpAny_truthy_bool ?_
    cases k2 with
    | false => exact ite_ff ⟨.bl false, H5, I5, rfl, q5⟩
    | true => exact ite_tt (chain_last (thn (hd.run pins s5 σ H5 _ I5 q5) fun w2 s6 ⟨z3, H6, I6, r6, q6⟩ => ho'' pins s6 σ H6 z' z3 w' w2 Q I6 r4 r6 q6))
theorem inDK (K : Frag) (hu : X.A.units + 65 < cLine) (h : X.K = K := by rfl) : OpR X (compareOp .In) (rInD K) := by subst h; exact op_inD hu
theorem ninDK (K : Frag) (hu : X.A.units + 65 < cLine) (h : X.K = K := by rfl) : OpR X (compareOp .NotIn) (rNotInD K) := by subst h; exact op_notInD hu
theorem mt_indexDK (K : Frag) (hu : X.A.units + 65 < cLine) (h : X.K = K := by rfl) : MtR X "list.index" (rIndexD K) := by subst h; exact mt_indexD hu
/-- sorted(xs) of data: the same items in order -/
def rSortedD (K : Frag) : List V → Hp → VK → Prop := fun vs H Q => ∃ (a : Addr) (bs : List (V × PyData)), vs = [V.ref a] ∧ SqL K H a (bs.map (·.1)) ∧ DpAll K H (bs.map (·.1)) (bs.map (·.2)) ∧ PySem.W.AllAlike (bs.map (·.2)) ∧ PySem.W.Sortable (bs.map (·.2)) ∧
  bs.length ≤ 100000 ∧ (∀ b, b ∈ bs → b.2.depth ≤ 60) ∧ ∀ p, H p = none → Q (.ref p) (upd H p (.lst ((bs.mergeSort (PySem.W.dataLe false (·.2))).map (·.1))))
theorem each_vals : ∀ {bs : List (V × PyData)} {us : List Value}, Vals (bs.map (·.1)) us → PySem.W.EachIs (fun v (b : V × PyData) => RelV b.1 v) us bs
  | [], _, h => by cases h; exact .nil
  | b :: bs, _, h => by
    cases h with
    | cons r t => exact .cons r (each_vals t)
theorem vals_each : ∀ {bs : List (V × PyData)} {us : List Value}, PySem.W.EachIs (fun v (b : V × PyData) => RelV b.1 v) us bs → Vals (bs.map (·.1)) us
  | [], _, h => by cases h; exact .nil
  | b :: bs, _, h => by
    cases h with
    | cons r t => exact .cons r (vals_each t)
theorem each_reads {h : Heap} : ∀ {bs : List (V × PyData)} {us : List Value} {as : List Addr}, ReadsAll h us (bs.map (·.2)) as → PySem.W.EachIs (fun v (b : V × PyData) => ∃ as, Reads h v b.2 as) us bs
  | [], _, _, h => by cases h; exact .nil
  | b :: bs, _, _, h => by
    cases h with
    | cons r t => exact .cons ⟨_, r⟩ (each_reads t)
theorem sortedDK (K : Frag) (hu : X.A.units + 64 < cLine) (h : X.K = K := by rfl) : CallR X (.builtin "sorted") (rSortedD K) := by
  subst h
  intro pins s σ H vs us Q I r h
  obtain ⟨a, bs, rfl, hs, hD, hal, hk, hl0, hdp, q⟩ := h
  obtain ⟨its, rv, hl, _⟩ := I.list hs
  rw [Vals.ref1 r]
  obtain ⟨as, hr⟩ := Dp.readsAll I (bs.map (·.2)) _ its hD rv
  refine PySem.W.sorted_data (vs := its) (bs := bs) (enc := fun b => b.2) (R := fun v b => RelV b.1 v) hl.isList (each_vals rv) (each_reads hr) hal hk (Nat.le_trans hl0 (by decide)) (fun b hb => by have := hdp b hb; omega) fun out hlen hout => ?_
  obtain ⟨ep, he'⟩ := PyProof.Rows.sortedAll_at s.heap its out.toArray
  have hlen2 : ((bs.mergeSort (PySem.W.dataLe false (·.2))).map (·.1)).length ≤ sizeLine := by rw [List.length_map, List.length_mergeSort]; exact Nat.le_trans hl0 (by decide)
  exact ⟨.ref _, upd H (s.heap.objs.size + 1) (.lst ((bs.mergeSort (PySem.W.dataLe false (·.2))).map (·.1))), I.laid (t' := s.toks) (fun _ _ => PyProof.Rows.sortedAll_old) (Nat.le_succ _) ⟨hlen2, out, ep, vals_each hout, he'⟩, rfl, q _ (I.hok.fresh (Nat.le_succ _))⟩
end
end AT

/-! ## the text of this law -/
namespace AT
open PySem PySem.Spec PyProof.Rows L2 Evl
def topS (i : Nat) : Stmt := PySem.Challenge.pw_arrowturns_k11_whole_the_reach_is_shut.main.body.getD i (.Pass ⟨0, 0, 0, 0⟩)
abbrev s_is_form : Stmt := topS 8
abbrev N_is_form : List Str := ["form", "count", "i", "j", "row"]
theorem sc_is_form : FnScope N_is_form ["form"] (defScope s_is_form) := ⟨rfl, rfl, rfl, by decide +kernel, rfl, by decide +kernel, by decide +kernel⟩
abbrev s_must_form : Stmt := topS 9
abbrev N_must_form : List Str := ["form"]
theorem sc_must_form : FnScope N_must_form ["form"] (defScope s_must_form) := ⟨rfl, rfl, rfl, by decide +kernel, rfl, by decide +kernel, by decide +kernel⟩
abbrev s_through : Stmt := topS 10
abbrev N_through : List Str := ["one", "other"]
theorem sc_through : FnScope N_through ["one", "other"] (defScope s_through) := ⟨rfl, rfl, rfl, by decide +kernel, rfl, by decide +kernel, by decide +kernel⟩
abbrev s_turned_by : Stmt := topS 11
abbrev N_turned_by : List Str := ["form", "box", "found", "i", "row", "j"]
theorem sc_turned_by : FnScope N_turned_by ["form", "box"] (defScope s_turned_by) := ⟨rfl, rfl, rfl, by decide +kernel, rfl, by decide +kernel, by decide +kernel⟩
abbrev s_turned : Stmt := topS 12
abbrev N_turned : List Str := ["form", "box"]
theorem sc_turned : FnScope N_turned ["form", "box"] (defScope s_turned) := ⟨rfl, rfl, rfl, by decide +kernel, rfl, by decide +kernel, by decide +kernel⟩
abbrev s_renamed_by : Stmt := topS 13
abbrev N_renamed_by : List Str := ["form", "names", "count", "place", "k", "i", "j"]
theorem sc_renamed_by : FnScope N_renamed_by ["form", "names"] (defScope s_renamed_by) := ⟨rfl, rfl, rfl, by decide +kernel, rfl, by decide +kernel, by decide +kernel⟩
abbrev s_all_names : Stmt := topS 17
abbrev N_all_names : List Str := ["count", "found", "k", "longer", "names", "name"]
theorem sc_all_names : FnScope N_all_names ["count"] (defScope s_all_names) := ⟨rfl, rfl, rfl, by decide +kernel, rfl, by decide +kernel, by decide +kernel⟩
abbrev s_least_by : Stmt := topS 18
abbrev N_least_by : List Str := ["form", "names"]
theorem sc_least_by : FnScope N_least_by ["form"] (defScope s_least_by) := ⟨rfl, rfl, rfl, by decide +kernel, rfl, by decide +kernel, by decide +kernel⟩
abbrev s_must_be_few : Stmt := topS 19
abbrev N_must_be_few : List Str := ["form"]
theorem sc_must_be_few : FnScope N_must_be_few ["form"] (defScope s_must_be_few) := ⟨rfl, rfl, rfl, by decide +kernel, rfl, by decide +kernel, by decide +kernel⟩
abbrev s_least : Stmt := topS 20
abbrev N_least : List Str := ["form"]
theorem sc_least : FnScope N_least ["form"] (defScope s_least) := ⟨rfl, rfl, rfl, by decide +kernel, rfl, by decide +kernel, by decide +kernel⟩
abbrev s_key_of : Stmt := topS 21
abbrev N_key_of : List Str := ["form", "row"]
theorem sc_key_of : FnScope N_key_of ["form"] (defScope s_key_of) := ⟨rfl, rfl, rfl, by decide +kernel, rfl, by decide +kernel, by decide +kernel⟩
abbrev s_ways_from : Stmt := topS 22
abbrev N_ways_from : List Str := ["form", "ways", "queue", "at", "way_here", "here", "box", "behind", "key"]
theorem sc_ways_from : FnScope N_ways_from ["form"] (defScope s_ways_from) := ⟨rfl, rfl, rfl, by decide +kernel, rfl, by decide +kernel, by decide +kernel⟩
abbrev s_reach : Stmt := topS 23
abbrev N_reach : List Str := ["form", "key", "row"]
theorem sc_reach : FnScope N_reach ["form"] (defScope s_reach) := ⟨rfl, rfl, rfl, by decide +kernel, rfl, by decide +kernel, by decide +kernel⟩
abbrev s_determinant : Stmt := topS 25
abbrev N_determinant : List Str := ["form", "rows", "sign", "ahead", "k", "at", "first", "i", "scale", "row", "one", "other"]
theorem sc_determinant : FnScope N_determinant ["form"] (defScope s_determinant) := ⟨rfl, rfl, rfl, by decide +kernel, rfl, by decide +kernel, by decide +kernel⟩
abbrev s_step_of : Stmt := topS 26
abbrev N_step_of : List Str := ["row", "found", "number", "other", "rest"]
theorem sc_step_of : FnScope N_step_of ["row"] (defScope s_step_of) := ⟨rfl, rfl, rfl, by decide +kernel, rfl, by decide +kernel, by decide +kernel⟩
abbrev s_kept : Stmt := topS 27
abbrev N_kept : List Str := ["form", "row"]
theorem sc_kept : FnScope N_kept ["form"] (defScope s_kept) := ⟨rfl, rfl, rfl, by decide +kernel, rfl, by decide +kernel, by decide +kernel⟩
abbrev s__law_cell : Stmt := topS 29
abbrev N__law_cell : List Str := ["script", "k", "base"]
theorem sc__law_cell : FnScope N__law_cell ["script", "k"] (defScope s__law_cell) := ⟨rfl, rfl, rfl, by decide +kernel, rfl, by decide +kernel, by decide +kernel⟩
abbrev s__law_form : Stmt := topS 30
abbrev N__law_form : List Str := ["script", "k", "most", "count", "mode", "form", "at", "i", "j", "cell", "number"]
theorem sc__law_form : FnScope N__law_form ["script", "k", "most"] (defScope s__law_form) := ⟨rfl, rfl, rfl, by decide +kernel, rfl, by decide +kernel, by decide +kernel⟩
abbrev s__law_copy : Stmt := topS 31
abbrev N__law_copy : List Str := ["form", "numbers"]
theorem sc__law_copy : FnScope N__law_copy ["form"] (defScope s__law_copy) := ⟨rfl, rfl, rfl, by decide +kernel, rfl, by decide +kernel, by decide +kernel⟩
abbrev s__law_renamed : Stmt := topS 34
abbrev N__law_renamed : List Str := ["form", "names", "count", "found", "i", "j"]
theorem sc__law_renamed : FnScope N__law_renamed ["form", "names"] (defScope s__law_renamed) := ⟨rfl, rfl, rfl, by decide +kernel, rfl, by decide +kernel, by decide +kernel⟩
abbrev s__law_some_names : Stmt := topS 35
abbrev N__law_some_names : List Str := ["script", "k", "count", "left", "names", "j"]
theorem sc__law_some_names : FnScope N__law_some_names ["script", "k", "count"] (defScope s__law_some_names) := ⟨rfl, rfl, rfl, by decide +kernel, rfl, by decide +kernel, by decide +kernel⟩
abbrev s__law_small : Stmt := topS 38
abbrev N__law_small : List Str := ["script", "k", "count", "mode", "form", "i", "j", "two"]
theorem sc__law_small : FnScope N__law_small ["script", "k"] (defScope s__law_small) := ⟨rfl, rfl, rfl, by decide +kernel, rfl, by decide +kernel, by decide +kernel⟩
abbrev s__law_told : Stmt := topS 40
abbrev N__law_told : List Str := ["form", "found"]
theorem sc__law_told : FnScope N__law_told ["form"] (defScope s__law_told) := ⟨rfl, rfl, rfl, by decide +kernel, rfl, by decide +kernel, by decide +kernel⟩
abbrev s_law : Stmt := topS 41
abbrev N_law : List Str := ["script", "form", "found", "falls", "total", "one", "box", "behind", "other", "names", "k", "numbers"]
theorem sc_law : FnScope N_law ["script"] (defScope s_law) := ⟨rfl, rfl, rfl, by decide +kernel, rfl, by decide +kernel, by decide +kernel⟩
/-- what the top has left: the defs, the constants, the classes, the built-in names -/
structure Txt (K : Frag) (mg : Str → Option Value) where
  f_is_form : Addr
  d_is_form : FuncData
  F_is_form : Fun K "is_form" "is_form" s_is_form f_is_form d_is_form
  m_is_form : mg "is_form" = some (.ref f_is_form)
  b_is_form : Binds K d_is_form ["form"] []
  f_must_form : Addr
  d_must_form : FuncData
  F_must_form : Fun K "must_form" "must_form" s_must_form f_must_form d_must_form
  m_must_form : mg "must_form" = some (.ref f_must_form)
  b_must_form : Binds K d_must_form ["form"] []
  f_through : Addr
  d_through : FuncData
  F_through : Fun K "through" "through" s_through f_through d_through
  m_through : mg "through" = some (.ref f_through)
  b_through : Binds K d_through ["one", "other"] []
  f_turned_by : Addr
  d_turned_by : FuncData
  F_turned_by : Fun K "turned_by" "turned_by" s_turned_by f_turned_by d_turned_by
  m_turned_by : mg "turned_by" = some (.ref f_turned_by)
  b_turned_by : Binds K d_turned_by ["form", "box"] []
  f_turned : Addr
  d_turned : FuncData
  F_turned : Fun K "turned" "turned" s_turned f_turned d_turned
  m_turned : mg "turned" = some (.ref f_turned)
  b_turned : Binds K d_turned ["form", "box"] []
  f_renamed_by : Addr
  d_renamed_by : FuncData
  F_renamed_by : Fun K "renamed_by" "renamed_by" s_renamed_by f_renamed_by d_renamed_by
  m_renamed_by : mg "renamed_by" = some (.ref f_renamed_by)
  b_renamed_by : Binds K d_renamed_by ["form", "names"] []
  f_all_names : Addr
  d_all_names : FuncData
  F_all_names : Fun K "all_names" "all_names" s_all_names f_all_names d_all_names
  m_all_names : mg "all_names" = some (.ref f_all_names)
  b_all_names : Binds K d_all_names ["count"] []
  f_least_by : Addr
  d_least_by : FuncData
  F_least_by : Fun K "least_by" "least_by" s_least_by f_least_by d_least_by
  m_least_by : mg "least_by" = some (.ref f_least_by)
  b_least_by : Binds K d_least_by ["form"] []
  f_must_be_few : Addr
  d_must_be_few : FuncData
  F_must_be_few : Fun K "must_be_few" "must_be_few" s_must_be_few f_must_be_few d_must_be_few
  m_must_be_few : mg "must_be_few" = some (.ref f_must_be_few)
  b_must_be_few : Binds K d_must_be_few ["form"] []
  f_least : Addr
  d_least : FuncData
  F_least : Fun K "least" "least" s_least f_least d_least
  m_least : mg "least" = some (.ref f_least)
  b_least : Binds K d_least ["form"] []
  f_key_of : Addr
  d_key_of : FuncData
  F_key_of : Fun K "key_of" "key_of" s_key_of f_key_of d_key_of
  m_key_of : mg "key_of" = some (.ref f_key_of)
  b_key_of : Binds K d_key_of ["form"] []
  f_ways_from : Addr
  d_ways_from : FuncData
  F_ways_from : Fun K "ways_from" "ways_from" s_ways_from f_ways_from d_ways_from
  m_ways_from : mg "ways_from" = some (.ref f_ways_from)
  b_ways_from : Binds K d_ways_from ["form"] []
  f_reach : Addr
  d_reach : FuncData
  F_reach : Fun K "reach" "reach" s_reach f_reach d_reach
  m_reach : mg "reach" = some (.ref f_reach)
  b_reach : Binds K d_reach ["form"] []
  f_determinant : Addr
  d_determinant : FuncData
  F_determinant : Fun K "determinant" "determinant" s_determinant f_determinant d_determinant
  m_determinant : mg "determinant" = some (.ref f_determinant)
  b_determinant : Binds K d_determinant ["form"] []
  f_step_of : Addr
  d_step_of : FuncData
  F_step_of : Fun K "step_of" "step_of" s_step_of f_step_of d_step_of
  m_step_of : mg "step_of" = some (.ref f_step_of)
  b_step_of : Binds K d_step_of ["row"] []
  f_kept : Addr
  d_kept : FuncData
  F_kept : Fun K "kept" "kept" s_kept f_kept d_kept
  m_kept : mg "kept" = some (.ref f_kept)
  b_kept : Binds K d_kept ["form"] []
  f__law_cell : Addr
  d__law_cell : FuncData
  F__law_cell : Fun K "_law_cell" "_law_cell" s__law_cell f__law_cell d__law_cell
  m__law_cell : mg "_law_cell" = some (.ref f__law_cell)
  b__law_cell : Binds K d__law_cell ["script", "k"] []
  f__law_form : Addr
  d__law_form : FuncData
  F__law_form : Fun K "_law_form" "_law_form" s__law_form f__law_form d__law_form
  m__law_form : mg "_law_form" = some (.ref f__law_form)
  b__law_form : Binds K d__law_form ["script", "k", "most"] []
  f__law_copy : Addr
  d__law_copy : FuncData
  F__law_copy : Fun K "_law_copy" "_law_copy" s__law_copy f__law_copy d__law_copy
  m__law_copy : mg "_law_copy" = some (.ref f__law_copy)
  b__law_copy : Binds K d__law_copy ["form"] []
  f__law_renamed : Addr
  d__law_renamed : FuncData
  F__law_renamed : Fun K "_law_renamed" "_law_renamed" s__law_renamed f__law_renamed d__law_renamed
  m__law_renamed : mg "_law_renamed" = some (.ref f__law_renamed)
  b__law_renamed : Binds K d__law_renamed ["form", "names"] []
  f__law_some_names : Addr
  d__law_some_names : FuncData
  F__law_some_names : Fun K "_law_some_names" "_law_some_names" s__law_some_names f__law_some_names d__law_some_names
  m__law_some_names : mg "_law_some_names" = some (.ref f__law_some_names)
  b__law_some_names : Binds K d__law_some_names ["script", "k", "count"] []
  f__law_small : Addr
  d__law_small : FuncData
  F__law_small : Fun K "_law_small" "_law_small" s__law_small f__law_small d__law_small
  m__law_small : mg "_law_small" = some (.ref f__law_small)
  b__law_small : Binds K d__law_small ["script", "k"] []
  f__law_told : Addr
  d__law_told : FuncData
  F__law_told : Fun K "_law_told" "_law_told" s__law_told f__law_told d__law_told
  m__law_told : mg "_law_told" = some (.ref f__law_told)
  b__law_told : Binds K d__law_told ["form"] []
  f_law : Addr
  d_law : FuncData
  F_law : Fun K "law" "law" s_law f_law d_law
  m_law : mg "law" = some (.ref f_law)
  b_law : Binds K d_law ["script"] []
  t_MOST_BOXES : Tok
  m_MOST_BOXES : mg "MOST_BOXES" = some (.int 6 t_MOST_BOXES)
  t_MOST_ARROWS : Tok
  m_MOST_ARROWS : mg "MOST_ARROWS" = some (.int 99 t_MOST_ARROWS)
  t_MOST_NAMED : Tok
  m_MOST_NAMED : mg "MOST_NAMED" = some (.int 4 t_MOST_NAMED)
  t_MOST_FORMS : Tok
  m_MOST_FORMS : mg "MOST_FORMS" = some (.int 20 t_MOST_FORMS)
  c_TurnError : Addr
  x_TurnError : ExcF K mg "TurnError" c_TurnError
  g_TurnError : mg "TurnError" = some (.ref c_TurnError)
  c_NoForm : Addr
  x_NoForm : ExcF K mg "NoForm" c_NoForm
  g_NoForm : mg "NoForm" = some (.ref c_NoForm)
  c_NoBox : Addr
  x_NoBox : ExcF K mg "NoBox" c_NoBox
  g_NoBox : mg "NoBox" = some (.ref c_NoBox)
  c_TooMany : Addr
  x_TooMany : ExcF K mg "TooMany" c_TooMany
  g_TooMany : mg "TooMany" = some (.ref c_TooMany)
  u_TurnError_TurnError : PySem.W.subIn K (.ref c_TurnError) (.ref c_TurnError) = some true
  u_TurnError_NoForm : PySem.W.subIn K (.ref c_TurnError) (.ref c_NoForm) = some false
  u_TurnError_NoBox : PySem.W.subIn K (.ref c_TurnError) (.ref c_NoBox) = some false
  u_TurnError_TooMany : PySem.W.subIn K (.ref c_TurnError) (.ref c_TooMany) = some false
  u_NoForm_TurnError : PySem.W.subIn K (.ref c_NoForm) (.ref c_TurnError) = some true
  u_NoForm_NoForm : PySem.W.subIn K (.ref c_NoForm) (.ref c_NoForm) = some true
  u_NoForm_NoBox : PySem.W.subIn K (.ref c_NoForm) (.ref c_NoBox) = some false
  u_NoForm_TooMany : PySem.W.subIn K (.ref c_NoForm) (.ref c_TooMany) = some false
  u_NoBox_TurnError : PySem.W.subIn K (.ref c_NoBox) (.ref c_TurnError) = some true
  u_NoBox_NoForm : PySem.W.subIn K (.ref c_NoBox) (.ref c_NoForm) = some false
  u_NoBox_NoBox : PySem.W.subIn K (.ref c_NoBox) (.ref c_NoBox) = some true
  u_NoBox_TooMany : PySem.W.subIn K (.ref c_NoBox) (.ref c_TooMany) = some false
  u_TooMany_TurnError : PySem.W.subIn K (.ref c_TooMany) (.ref c_TurnError) = some true
  u_TooMany_NoForm : PySem.W.subIn K (.ref c_TooMany) (.ref c_NoForm) = some false
  u_TooMany_NoBox : PySem.W.subIn K (.ref c_TooMany) (.ref c_NoBox) = some false
  u_TooMany_TooMany : PySem.W.subIn K (.ref c_TooMany) (.ref c_TooMany) = some true
  b_len : mg "len" = none
  b_range : mg "range" = none
  b_abs : mg "abs" = none
  b_min : mg "min" = none
  b_tuple : mg "tuple" = none
  b_sorted : mg "sorted" = none
  b_list : mg "list" = none
  b_zip : mg "zip" = none
  b_max : mg "max" = none
end AT

namespace AT
open PySem PySem.Spec PyProof.Rows L2 Evl
/-! ### is_form -/
def cl (M : List (List Int)) (i j : Nat) : Int := (M.getD i []).getD j 0
/-- rows that are a form of n boxes with the numbers f -/
def FormOf (n : Nat) (f : Nat → Nat → Int) : Prop := 1 ≤ n ∧ n ≤ 6 ∧ ∀ i j, i < n → j < n → f i j = 0 - f j i ∧ -99 ≤ f i j ∧ f i j ≤ 99
def IsForm (M : List (List Int)) : Prop := ∃ n f, M = Fm n f ∧ FormOf n f
theorem list_eq_range {α : Type} (d : α) (l : List α) : l = (List.range l.length).map fun i => l.getD i d := by
  apply List.ext_getElem
  · simp
  · intro i h1 h2
    simp [List.getD_eq_getElem?_getD, h1]
theorem fm_of {M : List (List Int)} (h : ∀ r, r ∈ M → r.length = M.length) : M = Fm M.length (cl M) := by
  unfold Fm
  refine (list_eq_range [] M).trans (mapr_ext fun i hi => ?_)
  have hm : M.getD i [] ∈ M := by
    rw [List.getD_eq_getElem?_getD, List.getElem?_eq_getElem hi]
    exact List.getElem_mem hi
  have e := list_eq_range 0 (M.getD i [])
  rw [h _ hm] at e
  exact e
theorem isForm_rows {M : List (List Int)} (h : IsForm M) : 1 ≤ M.length ∧ M.length ≤ 6 ∧ (∀ r, r ∈ M → r.length = M.length) := by
  obtain ⟨n, f, rfl, h1, h2, _⟩ := h
  rw [fm_len]
  refine ⟨h1, h2, fun r hr => ?_⟩
  obtain ⟨i, _, rfl⟩ := List.mem_map.mp hr
  simp
theorem isForm_iff {M : List (List Int)} (h1 : 1 ≤ M.length) (h2 : M.length ≤ 6) (h : ∀ r, r ∈ M → r.length = M.length) :
    IsForm M ↔ ∀ i j, i < M.length → j < M.length → cl M i j = 0 - cl M j i ∧ -99 ≤ cl M i j ∧ cl M i j ≤ 99 := by
  constructor
  · rintro ⟨n, f, e, _, _, q⟩ i j hi hj
    have e2 := (fm_of h).symm.trans e
    obtain ⟨e3, e4⟩ := fm_inj e2
    rw [e4 i j hi hj, e4 j i hj hi]
    exact q i j (by omega) (by omega)
  · intro q
    exact ⟨M.length, cl M, fm_of h, h1, h2, q⟩
def sp_is_form (K : Frag) : Sp := fun vs H Q _ => ∃ a M, vs = [.ref a] ∧ LLI K H a M ∧ M.length ≤ 1000 ∧ (∀ r, r ∈ M → r.length ≤ 1000) ∧ ∀ b H', Ex H H' → (b = true ↔ IsForm M) → Q (.bl b) H'
section
variable {P : Program} {w : World} {K : Frag} {mg : Str → Option Value} {base : Heap} {k : Nat}
theorem given_pos {n : Nat} {f : Nat → Bool} {v : Nat → V} : (0 < ((given n f v).length : Int)) ↔ ∃ i, i < n ∧ f i = true := by
  unfold given
  rw [List.length_map]
  constructor
  · intro h
    have h2 : 0 < ((List.range n).filter f).length := by omega
    obtain ⟨x, hx⟩ := List.exists_mem_of_length_pos h2
    obtain ⟨a, b⟩ := List.mem_filter.mp hx
    exact ⟨x, List.mem_range.mp a, b⟩
  · rintro ⟨i, hi, hf⟩
    have : i ∈ (List.range n).filter f := List.mem_filter.mpr ⟨List.mem_range.mpr hi, hf⟩
    have := List.length_pos_of_mem this
    omega
theorem ok_is_form (T : Txt K mg) : FnOk P w K mg base CX0 (k + 1) T.f_is_form T.d_is_form ["form"] (sp_is_form K) := by
  refine T.F_is_form.ok sc_is_form (fun vs H Q E h => ?_) (fun cdv A outer s H vs Q E hr h => ?_)
  · obtain ⟨a, M, rfl, _⟩ := h
    rfl
  · obtain ⟨a, M, rfl, hM, hl, hrl, q⟩ := h
    refine ⟨_, (pss_cons (ps_set (i := 1) sc_is_form.nd rfl (.inr rfl) (pe_callB (lenK K) rfl T.b_len PySem.boot_len (pa_cons (pv 0) pa_nil)))
      (pss_cons (ps_if (PW.pt (pw_or (pt_cmpR op_lt (pv 1) pe_int (nomark _)) (pw_or (pt_cmpR op_gt (pv 1) (pe_glob (v := .int 6) rfl T.m_MOST_BOXES ⟨_, rfl⟩) (nomark _)) (pw_or1 (pt_cmpR op_gt (pe_callB (lenK K) rfl T.b_len PySem.boot_len (pa_cons (pe_lc (own := [("row", 4)]) rfl sc_is_form.nd (pi_listK K (pv 0)) (blkOk_by (own := [("row", 4)]) (N := N_is_form) (sc := defScope s_is_form) (by decide +kernel)) (fun _ _ _ _ _ => (pg_name (i := 4) sc_is_form.nd rfl (.inl rfl))) (fun _ _ _ _ _ => (pts_one (pt_cmpR op_ne (pe_callB (lenK K) rfl T.b_len PySem.boot_len (pa_cons (pv 4) pa_nil)) (pv 1) (nomark _)))) (fun _ _ _ _ _ => (pv 4))) pa_nil)) pe_int (nomark _))))))
        (pss_one (ps_ret pe_bl))
        pss_nil)
      (pss_cons (ps_for PassesOwn.never rfl (pi_range1 rfl T.b_range (pa_cons (pv 1) pa_nil)) (pg_name (i := 2) sc_is_form.nd rfl (.inl rfl))
        (pss_one (ps_for PassesOwn.never rfl (pi_range1 rfl T.b_range (pa_cons (pv 1) pa_nil)) (pg_name (i := 3) sc_is_form.nd rfl (.inl rfl))
        (pss_one (ps_if (PW.pt (pw_or (pt_cmpR op_ne (pe_ix (ixL K) (pe_ix (ixL K) (pv 0) (pv 2) (fun _ _ => rfl)) (pv 3) (fun _ _ => rfl)) (pe_op op_sub pe_int (pe_ix (ixL K) (pe_ix (ixL K) (pv 0) (pv 3) (fun _ _ => rfl)) (pv 2) (fun _ _ => rfl))) (nomark _)) (pw_or1 (pt_cmpR op_gt (pe_callB absK rfl T.b_abs (by decide +kernel) (pa_cons (pe_ix (ixL K) (pe_ix (ixL K) (pv 0) (pv 2) (fun _ _ => rfl)) (pv 3) (fun _ _ => rfl)) pa_nil)) (pe_glob (v := .int 99) rfl T.m_MOST_ARROWS ⟨_, rfl⟩) (nomark _)))))
        (pss_one (ps_ret pe_bl))
        pss_nil)))))
      (pss_one (ps_ret pe_bl))))), ?_⟩
    obtain ⟨as, hA, hP⟩ := id hM
    have hlen := hP.length
    refine q_asg (ev_lenLLI (ev_var rfl) hM) fun H1 e1 => ?_
    -- the first test
    have hcomp : ∃ rows : Nat → Bool, (∀ i r, M[i]? = some r → rows i = decide (r.length ≠ M.length)) := ⟨fun i => decide ((M.getD i []).length ≠ M.length), fun i r h => by show decide ((M.getD i []).length ≠ M.length) = _; rw [List.getD_eq_getElem?_getD, h]; rfl⟩
    obtain ⟨rows, hrows⟩ := hcomp
    refine q_when (b := (decide ((M.length : Int) < 1)) || (decide ((6 : Int) < M.length) || decide (0 < ((given (as.map V.ref).length rows fun i => (as.map V.ref).getD i .non).length : Int)))) ?_ ?_ ?_
    · refine et_or (et_test (ev_op (ev_var rfl) ev_c rv_I0)) fun _ => et_or (et_test (ev_op (ev_var rfl) ev_c rv_I0)) fun _ => et_test (ev_op (ev_lenN ?_) ev_c rv_I0)
      refine el_lcL _ _ (ev_var rfl) (ex_l e1 hA) (by rw [List.length_map]; omega) (fun _ => rfl) (fun i x H2 e2 hx => ?_) (fun i x H2 e2 hx _ => ?_)
      · rw [List.getElem?_map] at hx
        cases hy : as[i]? with
        | none => rw [hy] at hx; cases hx
        | some y =>
          rw [hy] at hx
          cases hx
          obtain ⟨r, h1, h2⟩ := paired_getL hP hy
          rw [hrows i r h1]
          refine et_is (et_test (ev_op (ev_lenLI (ev_var rfl) (h2.mono (e1.trans e2))) (ev_var rfl) (rv_ne rfl))) ?_
          by_cases z : r.length = M.length
          · simp [z]
          · have : ¬ (V.int (r.length : Int) = V.int (M.length : Int)) := fun q => z (by injection q; omega)
            simp [z, this]
      · rw [List.getD_eq_getElem?_getD, hx]
        exact ev_var rfl
    · intro hb H2 e2
      refine s_ret ev_c fun H3 e3 => q false H3 ((e1.trans e2).trans e3) (bfF fun z => ?_)
      obtain ⟨z1, z2, z3⟩ := isForm_rows z
      simp only [Bool.or_eq_true, decide_eq_true_eq, given_pos] at hb
      rcases hb with hb | hb | ⟨i, hi, hb⟩
      · omega
      · omega
      · rw [List.length_map, hlen] at hi
        have := hrows i M[i] (List.getElem?_eq_getElem hi)
        rw [hb, z3 _ (List.getElem_mem hi)] at this
        simp at this
    · intro hb H2 e2
      simp only [Bool.or_eq_false_iff, decide_eq_false_iff_not, given_pos] at hb
      obtain ⟨hb1, hb2, hb3⟩ := hb
      have hn1 : 1 ≤ M.length := by omega
      have hn2 : M.length ≤ 6 := by omega
      have hrow : ∀ r, r ∈ M → r.length = M.length := fun r hr => by
        obtain ⟨i, hi, e⟩ := List.mem_iff_getElem.mp hr
        by_cases z : r.length = M.length
        · exact z
        · refine (hb3 ⟨i, by rw [List.length_map, hlen]; exact hi, ?_⟩).elim
          rw [hrows i r (by rw [List.getElem?_eq_getElem hi, e])]
          exact decide_eq_true z
      have hfm := fm_of hrow
      have hiff := isForm_iff hn1 hn2 hrow
      generalize hn : M.length = n at *
      rw [hfm] at hM
      refine q_forR1 (n := (n : Int)) (ea_cons (ev_var rfl) ea_nil) (by omega) (fun i σ' H' => ∃ x2 x3 x4, σ' = [some (.ref a), some (.int (n : Int)), x2, x3, x4] ∧ Ex H H' ∧ ∀ i' j, i' < i → j < n → cl M i' j = 0 - cl M j i' ∧ -99 ≤ cl M i' j ∧ cl M i' j ≤ 99) (fun H3 e3 => ⟨none, none, none, rfl, (e1.trans e2).trans e3, fun i' j h => absurd h (Nat.not_lt_zero _)⟩) (fun i σ' H' hi hp => ?_) (fun σ' H' hp => ?_)
      · obtain ⟨x2, x3, x4, rfl, eH, hc⟩ := hp
        have hi' : i < n := by omega
        refine s_forR1 (n := (n : Int)) (ea_cons (ev_var rfl) ea_nil) (by omega) (fun j σ' H' => ∃ x3 x4, σ' = [some (.ref a), some (.int (n : Int)), some (.int (i : Int)), x3, x4] ∧ Ex H H' ∧ ∀ j', j' < j → cl M i j' = 0 - cl M j' i ∧ -99 ≤ cl M i j' ∧ cl M i j' ≤ 99) (fun H3 e3 => ⟨_, _, rfl, eH.trans e3, fun j' h => absurd h (Nat.not_lt_zero _)⟩) (fun j σ' H' hj hp => ?_) (fun σ' H' hp => ?_)
        · obtain ⟨y3, y4, rfl, eH', hc'⟩ := hp
          have hj' : j < n := by omega
          have hMj := hM.mono eH'
          refine s_when (et_or (et_test (ev_op (ev_fm (ev_var rfl) (ev_var rfl) (ev_var rfl) hMj hi' hj') (ev_op ev_c (ev_fm (ev_var rfl) (ev_var rfl) (ev_var rfl) hMj hj' hi') rv_I0) (rv_ne rfl))) fun _ => et_test (ev_op (ev_abs (ev_fm (ev_var rfl) (ev_var rfl) (ev_var rfl) hMj hi' hj')) ev_c rv_I0)) (fun hb H3 e3 => ?_) (fun hb H3 e3 => ?_)
          · refine s_ret ev_c fun H4 e4 => q false H4 ((eH'.trans e3).trans e4) (bfF fun z => ?_)
            have := (hiff.mp z) i j hi' hj'
            simp only [Bool.or_eq_true, decide_eq_true_eq, Bool.not_eq_true', decide_eq_false_iff_not] at hb
            rcases hb with hb | hb
            · exact absurd (by rw [this.1]) hb
            · split at hb <;> omega
          · refine ⟨_, _, rfl, eH'.trans e3, fun j' h => ?_⟩
            by_cases e : j' = j
            · subst e
              simp only [Bool.or_eq_false_iff, decide_eq_false_iff_not, Bool.not_eq_false', decide_eq_true_eq] at hb
              obtain ⟨h1, h2⟩ := hb
              have h1' : cl M i j' = 0 - cl M j' i := by injection h1
              refine ⟨h1', ?_⟩
              split at h2 <;> omega
            · exact hc' j' (by omega)
        · obtain ⟨y3, y4, rfl, eH', hc'⟩ := hp
          refine ⟨_, _, _, rfl, eH', fun i' j h hj => ?_⟩
          by_cases e : i' = i
          · subst e
            exact hc' j (by omega)
          · exact hc i' j (by omega) hj
      · obtain ⟨x2, x3, x4, rfl, eH, hc⟩ := hp
        refine s_ret ev_c fun H3 e3 => q true H3 (eH.trans e3) (bfT (hiff.mpr fun i j hi hj => hc i j (by omega) hj))
end
end AT

/-! ## * of any size that the machine takes -/
namespace AT
open PySem PySem.Spec PyProof.Rows L2 Evl
def CMulX (i j : Int) : Prop := i.natAbs.log2 + j.natAbs.log2 < 100000000
theorem CMulX.ok {i j : Int} (h : CMulX i j) : IntMulOk i j := by
  have b : ∀ x : Int, Builtin.Int.intBits x ≤ x.natAbs.log2 + 1 := fun x => by
    unfold Builtin.Int.intBits
    split <;> omega
  have h1 := b i
  have h2 := b j
  have h3 : i.natAbs.log2 + j.natAbs.log2 < 100000000 := h
  have e : bitsLine = 134217728 := by decide
  unfold IntMulOk
  intro z
  rw [Bool.and_eq_true] at z
  have z2 := z.2
  unfold Builtin.Int.intTooBig at z2
  have z3 := of_decide_eq_true z2
  rw [e] at z3
  omega
theorem op_mulX {X : Cx} : OpR X (binaryOp .Mult) (rI CMulX fun i j => .int (i * j)) := opI fun _ _ _ _ _ _ _ hc q => mul_int q hc.ok
theorem wide_mulX {i j : Int} {a b : Nat} (ha : i.natAbs < 2 ^ a) (hb : j.natAbs < 2 ^ b) (h0 : 0 < a) (h1 : 0 < b) (h : a + b ≤ 100000000) : CMulX i j := by
  have x := PySem.Flt.log2_lt_of h0 ha
  have y := PySem.Flt.log2_lt_of h1 hb
  unfold CMulX
  omega
end AT
namespace AT
open PySem PySem.Spec PyProof.Rows L2 Evl
/-! ### must_form, through, turned_by, turned -/
def thr (a b : Int) : Int := if 0 < a ∧ 0 < b then a * b else if a < 0 ∧ b < 0 then 0 - a * b else 0
def turnF (f : Nat → Nat → Int) (k : Nat) : Nat → Nat → Int := fun i j => if i = k ∨ j = k then 0 - f i j else f i j + thr (f i k) (f k j)
/-- numbers of less than B bits -/
def Bits (B n : Nat) (f : Nat → Nat → Int) : Prop := 0 < B ∧ B + B ≤ 90000000 ∧ ∀ i j, i < n → j < n → (f i j).natAbs < 2 ^ B
theorem FormOf.bits {n : Nat} {f : Nat → Nat → Int} (h : FormOf n f) : Bits 7 n f := ⟨by decide, by decide, fun i j hi hj => by
  have := (h.2.2 i j hi hj).2
  show _ < 128
  omega⟩
def SmallM (M : List (List Int)) : Prop := M.length ≤ 1000 ∧ ∀ r, r ∈ M → r.length ≤ 1000
theorem small_fm {n : Nat} {f : Nat → Nat → Int} (h : n ≤ 1000) : SmallM (Fm n f) := ⟨by rw [fm_len]; exact h, fun r hr => by
  obtain ⟨i, _, rfl⟩ := List.mem_map.mp hr
  simpa using h⟩
def sp_must_form (K : Frag) (C : Addr) : Sp := fun vs H Q E => ∃ a M, vs = [.ref a] ∧ LLI K H a M ∧ SmallM M ∧ ∀ H', Ex H H' → (IsForm M → Q .non H') ∧ (¬ IsForm M → E (.ref C) none H')
def sp_through : Sp := fun vs H Q _ => ∃ a b, vs = [.int a, .int b] ∧ CMulX a b ∧ ∀ H', Ex H H' → Q (.int (thr a b)) H'
def sp_turned_by (K : Frag) : Sp := fun vs H Q _ => ∃ a n f k B, vs = [.ref a, .int ((k : Nat) : Int)] ∧ LLI K H a (Fm n f) ∧ n ≤ 100 ∧ k < n ∧ Bits B n f ∧ ∀ H' p, Ex H H' → OLLI H H' p (Fm n (turnF f k)) → Q (.ref p) H'
def sp_turned (K : Frag) (CF CB : Addr) : Sp := fun vs H Q E => ∃ a M box, vs = [.ref a, .int box] ∧ LLI K H a M ∧ SmallM M ∧ (¬ IsForm M → ∀ H', Ex H H' → E (.ref CF) none H') ∧
  (∀ n f, M = Fm n f → FormOf n f → (∀ k : Nat, box = k → k < n → ∀ H' p, Ex H H' → OLLI H H' p (Fm n (turnF f k)) → Q (.ref p) H') ∧ ((box < 0 ∨ (n : Int) ≤ box) → ∀ H', Ex H H' → E (.ref CB) none H'))
section
variable {P : Program} {w : World} {K : Frag} {mg : Str → Option Value} {base : Heap} {k : Nat}
theorem ok_must_form (T : Txt K mg) (G_is_form : FnOk P w K mg base CX0 k T.f_is_form T.d_is_form ["form"] (sp_is_form K)) : FnOk P w K mg base (L2.CX P w) (k + 1) T.f_must_form T.d_must_form ["form"] (sp_must_form K T.c_NoForm) := by
  refine T.F_must_form.okX sc_must_form (fun vs H Q E h => ?_) (fun cdv A outer s H vs Q E hr h => ?_)
  · obtain ⟨a, M, rfl, _⟩ := h
    rfl
  · obtain ⟨a, M, rfl, hM, hs, q⟩ := h
    refine ⟨_, (pss_one (ps_if (pt_not (pt_val (pe_call G_is_form hr rfl T.m_is_form T.F_is_form.kp T.b_is_form .nil pass0 (pa_cons (pv 0) pa_nil))))
        (pss_one (ps_raise rfl (takes_of rfl rfl rfl rfl) (pmk_own PySem.F.excBase_ValueError T.x_NoForm.xn T.x_NoForm.g T.x_NoForm.kp (raises_own T.x_NoForm.bs T.x_NoForm.ty) rfl)))
        pss_nil)), ?_⟩
    refine ⟨.ref a, rfl, a, M, rfl, hM, hs.1, hs.2, fun b H1 e1 hb => ?_⟩
    refine ⟨b, rfl, ?_⟩
    cases b with
    | true => exact (q H1 e1).1 (hb.mp rfl)
    | false => exact (q H1 e1).2 fun z => Bool.false_ne_true (hb.mpr z)
theorem ok_through (T : Txt K mg) : FnOk P w K mg base CX0 (k + 1) T.f_through T.d_through ["one", "other"] sp_through := by
  refine T.F_through.ok sc_through (fun vs H Q E h => ?_) (fun cdv A outer s H vs Q E hr h => ?_)
  · obtain ⟨a, b, rfl, _⟩ := h
    rfl
  · obtain ⟨a, b, rfl, hm, q⟩ := h
    refine ⟨_, (pss_cons (ps_if (PW.pt (pw_and (pt_cmpR op_gt (pv 0) pe_int (nomark _)) (pw_and1 (pt_cmpR op_gt (pv 1) pe_int (nomark _)))))
        (pss_one (ps_ret (pe_op op_mulX (pv 0) (pv 1))))
        pss_nil)
      (pss_cons (ps_if (PW.pt (pw_and (pt_cmpR op_lt (pv 0) pe_int (nomark _)) (pw_and1 (pt_cmpR op_lt (pv 1) pe_int (nomark _)))))
        (pss_one (ps_ret (pe_op op_sub pe_int (pe_op op_mulX (pv 0) (pv 1)))))
        pss_nil)
      (pss_one (ps_ret pe_int)))), ?_⟩
    refine q_when (et_and (et_test (ev_op (ev_var rfl) ev_c rv_I0)) fun _ => et_test (ev_op (ev_var rfl) ev_c rv_I0)) (fun hb H1 e1 => s_ret (ev_op (ev_var rfl) (ev_var rfl) (rv_I hm)) fun H2 e2 => ?_) (fun hb H1 e1 => ?_)
    · simp only [Bool.and_eq_true, decide_eq_true_eq] at hb
      have := q H2 (e1.trans e2)
      unfold thr at this
      rw [if_pos hb] at this
      exact this
    · simp only [Bool.and_eq_false_iff, decide_eq_false_iff_not] at hb
      refine q_when (et_and (et_test (ev_op (ev_var rfl) ev_c rv_I0)) fun _ => et_test (ev_op (ev_var rfl) ev_c rv_I0)) (fun hc H2 e2 => s_ret (ev_op ev_c (ev_op (ev_var rfl) (ev_var rfl) (rv_I hm)) rv_I0) fun H3 e3 => ?_) (fun hc H2 e2 => s_ret ev_c fun H3 e3 => ?_)
      · simp only [Bool.and_eq_true, decide_eq_true_eq] at hc
        have := q H3 ((e1.trans e2).trans e3)
        unfold thr at this
        rw [if_neg (by omega), if_pos hc] at this
        exact this
      · simp only [Bool.and_eq_false_iff, decide_eq_false_iff_not] at hc
        have := q H3 ((e1.trans e2).trans e3)
        unfold thr at this
        rw [if_neg (by omega), if_neg (by omega)] at this
        exact this
theorem ok_turned_by (T : Txt K mg) (G_through : FnOk P w K mg base CX0 k T.f_through T.d_through ["one", "other"] sp_through) : FnOk P w K mg base CX0 (k + 1) T.f_turned_by T.d_turned_by ["form", "box"] (sp_turned_by K) := by
  refine T.F_turned_by.ok sc_turned_by (fun vs H Q E h => ?_) (fun cdv A outer s H vs Q E hr h => ?_)
  · obtain ⟨a, n, f, k, B, rfl, _⟩ := h
    rfl
  · obtain ⟨a, n, f, k, B, rfl, hM, hn, hk, hB, q⟩ := h
    refine ⟨_, (pss_cons (ps_set (i := 2) sc_turned_by.nd rfl (.inl rfl) (pe_lst pa_nil))
      (pss_cons (ps_for PassesOwn.never rfl (pi_range1 rfl T.b_range (pa_cons (pe_callB (lenK K) rfl T.b_len PySem.boot_len (pa_cons (pv 0) pa_nil)) pa_nil)) (pg_name (i := 3) sc_turned_by.nd rfl (.inl rfl))
        (pss_cons (ps_set (i := 4) sc_turned_by.nd rfl (.inl rfl) (pe_lst pa_nil))
      (pss_cons (ps_for PassesOwn.never rfl (pi_range1 rfl T.b_range (pa_cons (pe_callB (lenK K) rfl T.b_len PySem.boot_len (pa_cons (pv 0) pa_nil)) pa_nil)) (pg_name (i := 5) sc_turned_by.nd rfl (.inl rfl))
        (pss_one (ps_if (PW.pt (pw_or (pt_cmpR op_eq (pv 3) (pv 1) (nomark _)) (pw_or1 (pt_cmpR op_eq (pv 5) (pv 1) (nomark _)))))
        (pss_one (ps_expr (bmK K PySem.F.plainAttrs_list PySem.F.slot_list_append PySem.F.type_list_append mt_append (pv 4) (pa_cons (pe_op op_sub pe_int (pe_ix (ixL K) (pe_ix (ixL K) (pv 0) (pv 3) (fun _ _ => rfl)) (pv 5) (fun _ _ => rfl))) pa_nil))))
        (pss_one (ps_expr (bmK K PySem.F.plainAttrs_list PySem.F.slot_list_append PySem.F.type_list_append mt_append (pv 4) (pa_cons (pe_op op_add (pe_ix (ixL K) (pe_ix (ixL K) (pv 0) (pv 3) (fun _ _ => rfl)) (pv 5) (fun _ _ => rfl)) (pe_call G_through hr rfl T.m_through T.F_through.kp T.b_through .nil pass0 (pa_cons (pe_ix (ixL K) (pe_ix (ixL K) (pv 0) (pv 3) (fun _ _ => rfl)) (pv 1) (fun _ _ => rfl)) (pa_cons (pe_ix (ixL K) (pe_ix (ixL K) (pv 0) (pv 1) (fun _ _ => rfl)) (pv 5) (fun _ _ => rfl)) pa_nil)))) pa_nil)))))))
      (pss_one (ps_expr (bmK K PySem.F.plainAttrs_list PySem.F.slot_list_append PySem.F.type_list_append mt_append (pv 2) (pa_cons (pv 4) pa_nil)))))))
      (pss_one (ps_ret (pv 2))))), ?_⟩
    have hl : ∀ {σ : St} {H1 : Hp}, σ[0]? = some (some (V.ref a)) → Ex H H1 → EvA (tCons (tCB (rLenS K) (tCons (tVar 0) tNil)) tNil) σ H1 [.int (n : Int)] := fun e e1 => by
      have := ea_cons (ev_lenLLI (K := K) (ev_var e) (hM.mono e1)) ea_nil
      rw [fm_len] at this
      exact this
    refine q_asgL (xs := []) (el_lst ea_nil (by simp)) fun p H1 hp e1 hp1 => ?_
    refine q_forR1 (hl rfl e1) (by omega) (fun i σ' H' => ∃ x3 x4 x5, σ' = [some (.ref a), some (.int (k : Int)), some (.ref p), x3, x4, x5] ∧ Ex H H' ∧ OLLI H H' p ((List.range i).map fun i => (List.range n).map (turnF f k i)))
      (fun H2 e2 => ⟨_, _, _, rfl, e1.trans e2, .nil hp (e2 _ _ hp1)⟩) (fun i σ' H' hi hP => ?_) (fun σ' H' hP => ?_)
    · obtain ⟨x3, x4, x5, rfl, eH, hO⟩ := hP
      have hi' : i < n := by omega
      refine q_asgL (xs := []) (el_lst ea_nil (by simp)) fun r H2 hr e2 hr2 => ?_
      refine q_forR1 (hl rfl (eH.trans e2)) (by omega) (fun j σ' H'' => ∃ x5, σ' = [some (.ref a), some (.int (k : Int)), some (.ref p), some (.int (i : Int)), some (.ref r), x5] ∧ Ex H' H'' ∧ H'' r = some (.lst (((List.range j).map (turnF f k i)).map V.int)))
        (fun H3 e3 => ⟨_, rfl, e2.trans e3, e3 _ _ hr2⟩) (fun j σ' H'' hj hP => ?_) (fun σ' H'' hP => ?_)
      · obtain ⟨x5, rfl, eH', hrow⟩ := hP
        have hj' : j < n := by omega
        have hMj := hM.mono (eH.trans eH')
        have hrl : (((List.range j).map (turnF f k i)).map V.int).length < 100000 := by simp; omega
        have fin : ∀ {H1 : Hp}, Ex H'' H1 → (∃ x5, [some (V.ref a), some (.int (k : Int)), some (.ref p), some (.int (i : Int)), some (.ref r), some (.int (j : Int))] = [some (V.ref a), some (.int (k : Int)), some (.ref p), some (.int (i : Int)), some (.ref r), x5] ∧
            Ex H' (upd H1 r (.lst (((List.range j).map (turnF f k i)).map V.int ++ [.int (turnF f k i j)]))) ∧ (upd H1 r (.lst (((List.range j).map (turnF f k i)).map V.int ++ [.int (turnF f k i j)]))) r = some (.lst (((List.range (j + 1)).map (turnF f k i)).map V.int))) := fun e =>
          ⟨_, rfl, Ex.mut (eH'.trans e) hr, by rw [upd_same, List.range_succ, List.map_append, List.map_append]; rfl⟩
        refine s_if (et_or (et_test (ev_op (ev_var rfl) (ev_var rfl) (rv_eq rfl))) fun _ => et_test (ev_op (ev_var rfl) (ev_var rfl) (rv_eq rfl))) (fun hb H3 e3 => ?_) (fun hb H3 e3 => ?_)
        · have hM3 := hMj.mono e3
          refine s_app (e3 _ _ hrow) (ev_var rfl) (ev_op ev_c (ev_fm (ev_var rfl) (ev_var rfl) (ev_var rfl) hM3 hi' hj') rv_I0) hrl fun H4 e4 => ?_
          have e : turnF f k i j = 0 - f i j := by
            unfold turnF
            rw [if_pos]
            simp only [Bool.or_eq_true, decide_eq_true_eq] at hb
            rcases hb with hb | hb
            · left; injection hb; omega
            · right; injection hb; omega
          have := fin (e3.trans e4)
          rw [e] at this
          exact this
        · have hM3 := hMj.mono e3
          have h1 : ¬ (i = k ∨ j = k) := by
            simp only [Bool.or_eq_false_iff, decide_eq_false_iff_not] at hb
            rintro (z | z)
            · exact hb.1 (by rw [z])
            · exact hb.2 (by rw [z])
          have e : turnF f k i j = f i j + thr (f i k) (f k j) := by
            unfold turnF
            rw [if_neg h1]
          refine s_app (e3 _ _ hrow) (ev_var rfl) (ev_op (ev_fm (ev_var rfl) (ev_var rfl) (ev_var rfl) hM3 hi' hj') (ev_call (z := .int (thr (f i k) (f k j))) (ea_cons (ev_fm (ev_var rfl) (ev_var rfl) (ev_var rfl) hM3 hi' hk) (ea_cons (ev_fm (ev_var rfl) (ev_var rfl) (ev_var rfl) hM3 hk hj') ea_nil)) ?_) rv_I0) hrl fun H4 e4 => ?_
          · intro H4 e4 Q hQ E
            exact ⟨_, _, rfl, wide_mulX (hB.2.2 i k hi' hk) (hB.2.2 k j hk hj') hB.1 hB.1 (by have := hB.2.1; omega), hQ⟩
          · have := fin (e3.trans e4)
            rw [e] at this
            exact this
      · obtain ⟨x5, rfl, eH', hrow⟩ := hP
        obtain ⟨vs, h1, h2, h3, h4⟩ := hO.push eH eH' hr hrow
        refine s_app h1 (ev_var rfl) (ev_var rfl) (by rw [h2]; simp; omega) fun H4 e4 => ?_
        obtain ⟨vs', h1', h2', h3', h4'⟩ := hO.push eH (eH'.trans e4) hr (e4 _ _ hrow)
        have : vs' = vs := by
          have z := h1'.symm.trans (e4 _ _ h1)
          injection z with z
          injection z
        subst this
        refine ⟨_, _, _, rfl, h4', ?_⟩
        rw [List.range_succ, List.map_append]
        exact h3'
    · obtain ⟨x3, x4, x5, rfl, eH, hO⟩ := hP
      exact s_ret (ev_var rfl) fun H2 e2 => q H2 p (eH.trans e2) (hO.mono e2)
theorem ok_turned (T : Txt K mg) (G_must_form : FnOk P w K mg base (L2.CX P w) k T.f_must_form T.d_must_form ["form"] (sp_must_form K T.c_NoForm)) (G_turned_by : FnOk P w K mg base CX0 k T.f_turned_by T.d_turned_by ["form", "box"] (sp_turned_by K)) :
    FnOk P w K mg base (L2.CX P w) (k + 1) T.f_turned T.d_turned ["form", "box"] (sp_turned K T.c_NoForm T.c_NoBox) := by
  refine T.F_turned.okX sc_turned (fun vs H Q E h => ?_) (fun cdv A outer s H vs Q E hr h => ?_)
  · obtain ⟨a, M, box, rfl, _⟩ := h
    rfl
  · obtain ⟨a, M, box, rfl, hM, hs, q1, q2⟩ := h
    refine ⟨_, (pss_cons (ps_expr (pe_call G_must_form hr rfl T.m_must_form T.F_must_form.kp T.b_must_form .nil (passes_call (takes_of rfl rfl rfl rfl) (fun _ _ _ _ h => h)) (pa_cons (pv 0) pa_nil)))
      (pss_cons (ps_if (PW.pt (pw_or (pt_cmpR op_lt (pv 1) pe_int (nomark _)) (pw_or1 (pt_cmpR op_ge (pv 1) (pe_callB (lenK K) rfl T.b_len PySem.boot_len (pa_cons (pv 0) pa_nil)) (nomark _)))))
        (pss_one (ps_raise rfl (takes_of rfl rfl rfl rfl) (pmk_own PySem.F.excBase_ValueError T.x_NoBox.xn T.x_NoBox.g T.x_NoBox.kp (raises_own T.x_NoBox.bs T.x_NoBox.ty) rfl)))
        pss_nil)
      (pss_one (ps_ret (pe_call G_turned_by hr rfl T.m_turned_by T.F_turned_by.kp T.b_turned_by .nil pass0 (pa_cons (pv 0) (pa_cons (pv 1) pa_nil))))))), ?_⟩
    refine ⟨.ref a, rfl, a, M, rfl, hM, hs, fun H1 e1 => ⟨fun hF => ?_, fun hF => q1 hF H1 e1⟩⟩
    obtain ⟨n, f, rfl, hf⟩ := hF
    obtain ⟨q3, q4⟩ := q2 n f rfl hf
    have hn := hf.2.1
    dsimp only
    refine q_when (et_or (et_test (ev_op (ev_var rfl) ev_c rv_I0)) fun _ => et_test (ev_op (ev_var rfl) (ev_lenFm (ev_var rfl) (hM.mono e1)) rv_I0)) (fun hb H2 e2 => ?_) (fun hb H2 e2 => ?_)
    · simp only [Bool.or_eq_true, decide_eq_true_eq] at hb
      exact q4 (by omega) H2 (e1.trans e2)
    · simp only [Bool.or_eq_false_iff, decide_eq_false_iff_not] at hb
      obtain ⟨k, rfl⟩ : ∃ k : Nat, box = k := ⟨box.toNat, by omega⟩
      refine ⟨.ref a, rfl, .int (k : Int), rfl, a, n, f, k, 7, rfl, hM.mono (e1.trans e2), by omega, by omega, hf.bits, fun H3 p e3 hO => ?_⟩
      exact q3 k rfl (by omega) H3 p ((e1.trans e2).trans e3) (hO.back (e1.trans e2))
end
end AT

namespace AT
open PySem PySem.Spec PyProof.Rows L2 Evl
/-! ### the law's own readers and makers -/
def cellV (ns : List Int) (k : Nat) : Int := if k < ns.length then ns.getD k 0 else ((ns.getD 0 0) % 65521 * 48271 + k * 30103) % 65521
def sp__law_cell (K : Frag) : Sp := fun vs H Q _ => ∃ (a : Addr) (ns : List Int) (k : Nat), vs = [.ref a, .int (k : Int)] ∧ LI K H a ns ∧ k ≤ 100000 ∧ ∀ H', Ex H H' → Q (.int (cellV ns k)) H'
def sp__law_form (K : Frag) : Sp := fun vs H Q _ => ∃ (a : Addr) (ns : List Int) (k most : Nat), vs = [.ref a, .int (k : Int), .int (most : Int)] ∧ LI K H a ns ∧ k ≤ 1000 ∧ 1 ≤ most ∧ most ≤ 6 ∧ ∀ (n : Nat) f H' p, Ex H H' → FormOf n f → (n ≤ most ∧ (n : Int) = 1 + cellV ns k % (most : Int)) → OLLI H H' p (Fm n f) → Q (.ref p) H'
def sp__law_copy (K : Frag) : Sp := fun vs H Q _ => ∃ a M, vs = [.ref a] ∧ LLI K H a M ∧ M.length ≤ 1000 ∧ ∀ H' p, Ex H H' → OLLI H H' p M → Q (.ref p) H'
def sp__law_like (K : Frag) : Sp := fun vs H Q _ => ∃ a b M N, vs = [.ref a, .ref b] ∧ TLL H a M ∧ LLI K H b N ∧ SmallM M ∧ ∀ H', Ex H H' → Q (.bl (decide (M = N))) H'
section
variable {P : Program} {w : World} {K : Frag} {mg : Str → Option Value} {base : Heap} {k : Nat}
theorem ok__law_cell (T : Txt K mg) : FnOk P w K mg base CX0 (k + 1) T.f__law_cell T.d__law_cell ["script", "k"] (sp__law_cell K) := by
  refine T.F__law_cell.ok sc__law_cell (fun vs H Q E h => ?_) (fun cdv A outer s H vs Q E hr h => ?_)
  · obtain ⟨a, ns, k, rfl, _⟩ := h
    rfl
  · obtain ⟨a, ns, k, rfl, hL, hk, q⟩ := h
    refine ⟨_, (pss_cons (ps_if (pt_cmpR op_lt (pv 1) (pe_callB (lenK K) rfl T.b_len PySem.boot_len (pa_cons (pv 0) pa_nil)) (nomark _))
        (pss_one (ps_ret (pe_ix (ixL K) (pv 0) (pv 1) (fun _ _ => rfl))))
        pss_nil)
      (pss_cons (ps_set (i := 2) sc__law_cell.nd rfl (.inl rfl) pe_int)
      (pss_cons (ps_if (pt_cmpR op_gt (pe_callB (lenK K) rfl T.b_len PySem.boot_len (pa_cons (pv 0) pa_nil)) pe_int (nomark _))
        (pss_one (ps_set (i := 2) sc__law_cell.nd rfl (.inl rfl) (pe_ix (ixL K) (pv 0) pe_int (fun _ _ => rfl))))
        pss_nil)
      (pss_one (ps_ret (pe_op op_modN (pe_op op_add (pe_op op_mul (pe_op op_modN (pv 2) pe_int) pe_int) (pe_op op_mul (pv 1) pe_int)) pe_int)))))), ?_⟩
    unfold cellV at q
    refine q_when (et_test (ev_op (ev_var rfl) (ev_lenLI (ev_var rfl) hL) rv_I0)) (fun hb H1 e1 => ?_) (fun hb H1 e1 => ?_)
    · have hk : k < ns.length := by have := of_decide_eq_true hb; omega
      refine s_ret (ev_item (v := ns.getD k 0) (ev_var rfl) (ev_var rfl) (hL.mono e1) (by rw [List.getD_eq_getElem?_getD, List.getElem?_eq_getElem hk]; rfl)) fun H2 e2 => ?_
      have := q H2 (e1.trans e2)
      rw [if_pos hk] at this
      exact this
    · have hk : ¬ k < ns.length := fun z => (of_decide_eq_false hb) (by omega)
      rw [if_neg hk] at q
      have fin : ∀ (b : Int) H1, b = ns.getD 0 0 → Ex H H1 → tRet (tOp (rI (fun _ j => j ≠ 0) fun i j => .int (i.fmod j)) (tOp (rI0 fun i j => .int (i + j)) (tOp (rI CMul fun i j => .int (i * j)) (tOp (rI (fun _ j => j ≠ 0) fun i j => .int (i.fmod j)) (tVar 2) (tC (.int 65521))) (tC (.int 48271))) (tOp (rI CMul fun i j => .int (i * j)) (tVar 1) (tC (.int 30103)))) (tC (.int 65521)))
          { nx := fun _ H' => Q .non H', rt := Q } [some (.ref a), some (.int (k : Int)), some (.int b)] H1 := fun b H1 hb e1 =>
        s_ret (ev_mod (ev_op (ev_op (ev_mod (ev_var rfl) ev_c (by decide)) ev_c (rv_I (.inr ⟨by decide, by decide⟩))) (ev_op (ev_var rfl) ev_c (rv_I (.inr ⟨by decide, by decide⟩))) rv_I0) ev_c (by decide)) fun H2 e2 => by
          rw [hb]
          exact q H2 (e1.trans e2)
      refine q_asg ev_c fun H2 e2 => q_when (et_test (ev_op (ev_lenLI (ev_var rfl) (hL.mono (e1.trans e2))) ev_c rv_I0)) (fun hb H3 e3 => ?_) (fun hb H3 e3 => ?_)
      · have h0 : 0 < ns.length := by have := of_decide_eq_true hb; omega
        exact s_asg (ev_item (i := 0) (v := ns.getD 0 0) (ev_var rfl) ev_c (hL.mono ((e1.trans e2).trans e3)) (by rw [List.getD_eq_getElem?_getD, List.getElem?_eq_getElem h0]; rfl)) fun H4 e4 => fin _ H4 rfl (((e1.trans e2).trans e3).trans e4)
      · have h0 : ns.length = 0 := by have := of_decide_eq_false hb; omega
        exact fin 0 H3 (by rw [List.getD_eq_getElem?_getD, List.getElem?_eq_none (by omega)]; rfl) ((e1.trans e2).trans e3)
/-- a call of it -/
theorem ev_cv {H : Hp} {σ : St} {a : Addr} {ns : List Int} {E : XK} {ta : TA} {j : Nat} (hL : LI K H a ns) (h : EvA ta σ H [.ref a, .int (j : Int)]) (hj : j ≤ 100000) : Ev (tCall (sp__law_cell K) [] E ta) σ H (.int (cellV ns j)) :=
  ev_call h fun H1 e1 Q q E => ⟨a, ns, j, rfl, hL.mono e1, hj, q⟩
theorem ok__law_form (T : Txt K mg) (G__law_cell : FnOk P w K mg base CX0 k T.f__law_cell T.d__law_cell ["script", "k"] (sp__law_cell K)) : FnOk P w K mg base CX0 (k + 1) T.f__law_form T.d__law_form ["script", "k", "most"] (sp__law_form K) := by
  refine T.F__law_form.ok sc__law_form (fun vs H Q E h => ?_) (fun cdv A outer s H vs Q E hr h => ?_)
  · obtain ⟨a, ns, k, most, rfl, _⟩ := h
    rfl
  · obtain ⟨a, ns, k, most, rfl, hL, hk, hm1, hm6, q⟩ := h
    refine ⟨_, (pss_cons (ps_set (i := 3) sc__law_form.nd rfl (.inr rfl) (pe_op op_add pe_int (pe_op op_modN (pe_call G__law_cell hr rfl T.m__law_cell T.F__law_cell.kp T.b__law_cell .nil pass0 (pa_cons (pv 0) (pa_cons (pv 1) pa_nil))) (pv 2))))
      (pss_cons (ps_set (i := 4) sc__law_form.nd rfl (.inl rfl) (pe_op op_modN (pe_call G__law_cell hr rfl T.m__law_cell T.F__law_cell.kp T.b__law_cell .nil pass0 (pa_cons (pv 0) (pa_cons (pe_op op_add (pv 1) pe_int) pa_nil))) pe_int))
      (pss_cons (ps_setLc (i := 5) (own := [("i", 7)]) rfl sc__law_form.nd rfl rfl (sw_true rfl rfl rfl (by decide +kernel)) (pi_range1 rfl T.b_range (pa_cons (pv 3) pa_nil)) (blkOk_by (own := [("i", 7)]) (N := N__law_form) (sc := defScope s__law_form) (by decide +kernel)) (fun _ _ _ _ _ => (pg_name (i := 7) sc__law_form.nd rfl (.inl rfl))) (fun _ _ _ _ _ => pts_nil) (fun _ _ _ _ _ => (pe_lc (own := [("j", 8)]) rfl sc__law_form.nd (pi_range1 rfl T.b_range (pa_cons (pv 3) pa_nil)) (blkOk_by (own := [("j", 8)]) (N := N__law_form) (sc := relS { kind := .function, names := [(PySem.Str.ofString ".0", PySem.NameKind.local), (PySem.Str.ofString "i", PySem.NameKind.local), (PySem.Str.ofString "range", PySem.NameKind.globalImplicit), (PySem.Str.ofString "count", PySem.NameKind.free)], isGenerator := false, isCoroutine := false, more := [] } (defScope s__law_form)) (by decide +kernel)) (fun _ _ _ _ _ => (pg_name (i := 8) sc__law_form.nd rfl (.inl rfl))) (fun _ _ _ _ _ => pts_nil) (fun _ _ _ _ _ => pe_int))))
      (pss_cons (ps_set (i := 6) sc__law_form.nd rfl (.inl rfl) (pe_op op_add (pv 1) pe_int))
      (pss_cons (ps_for PassesOwn.never rfl (pi_range1 rfl T.b_range (pa_cons (pv 3) pa_nil)) (pg_name (i := 7) sc__law_form.nd rfl (.inl rfl))
        (pss_one (ps_for PassesOwn.never rfl (pi_range1 rfl T.b_range (pa_cons (pv 7) pa_nil)) (pg_name (i := 8) sc__law_form.nd rfl (.inl rfl))
        (pss_cons (ps_set (i := 9) sc__law_form.nd rfl (.inl rfl) (pe_call G__law_cell hr rfl T.m__law_cell T.F__law_cell.kp T.b__law_cell .nil pass0 (pa_cons (pv 0) (pa_cons (pv 6) pa_nil))))
      (pss_cons (ps_set (i := 6) sc__law_form.nd rfl (.inl rfl) (pe_op op_add (pv 6) pe_int))
      (pss_cons (ps_set (i := 10) sc__law_form.nd rfl (.inl rfl) (pe_ix (ixL K) (pe_lst (pa_cons (pe_op op_sub (pe_op op_modN (pv 9) pe_int) pe_int) (pa_cons (pe_op op_sub (pe_op op_modN (pv 9) pe_int) pe_int) (pa_cons (pe_op op_sub (pe_op op_modN (pv 9) pe_int) pe_int) (pa_cons (pe_op op_sub (pe_op op_modN (pv 9) pe_int) pe_int) pa_nil))))) (pv 4) (fun _ _ => rfl)))
      (pss_cons (ps_if (PW.pt (pw_and (pt_cmpR op_eq (pv 4) pe_int (nomark _)) (pw_and1 (pt_cmpR op_eq (pe_op op_modN (pe_op op_fdivN (pv 9) pe_int) pe_int) pe_int (nomark _)))))
        (pss_one (ps_set (i := 10) sc__law_form.nd rfl (.inl rfl) pe_int))
        pss_nil)
      (pss_cons (ps_asg (pv 10) (pg_sub (pe_ix (ixL K) (pv 5) (pv 7) (fun _ _ => rfl)) (pv 8) set_list))
      (pss_one (ps_asg (pe_op op_sub pe_int (pv 10)) (pg_sub (pe_ix (ixL K) (pv 5) (pv 8) (fun _ _ => rfl)) (pv 7) set_list)))))))))))
      (pss_one (ps_ret (pv 5)))))))), ?_⟩
    refine q_asg (ev_op ev_c (ev_mod (ev_cv hL (ea_cons (ev_var rfl) (ea_cons (ev_var rfl) ea_nil)) (by omega)) (ev_var rfl) (by omega)) rv_I0) fun H1 e1 => ?_
    obtain ⟨n, hn⟩ : ∃ n : Nat, 1 + cellV ns k % (most : Int) = (n : Int) := ⟨(1 + cellV ns k % (most : Int)).toNat, by have := Int.emod_nonneg (cellV ns k) (show (most : Int) ≠ 0 by omega); omega⟩
    have hn1 : 1 ≤ n := by have := Int.emod_nonneg (cellV ns k) (show (most : Int) ≠ 0 by omega); omega
    have hnm : n ≤ most := by have := Int.emod_lt_of_pos (cellV ns k) (show (0 : Int) < most by omega); omega
    rw [hn]
    have hL1 := hL.mono e1
    refine q_asg (ev_mod (ev_cv (j := k + 1) hL1 (ea_cons (ev_var rfl) (ea_cons (ev_op (ev_var rfl) ev_c rv_I0) ea_nil)) (by omega)) ev_c (by decide)) fun H2 e2 => ?_
    obtain ⟨m, hm⟩ : ∃ m : Nat, cellV ns (k + 1) % 4 = (m : Int) := ⟨(cellV ns (k + 1) % 4).toNat, by omega⟩
    have hm4 : m < 4 := by omega
    rw [hm]
    refine qr_asg (em_lcR (n := (n : Int)) (fun i => (List.range n).map fun _ => 0) (ea_cons (ev_var rfl) ea_nil) (by omega) (fun _ => rfl) (fun i H3 e3 hi => er_of_evl ?_)) fun v H3 e3 ⟨p, hv, hO⟩ => ?_
    · have := el_lcR1 (n := (n : Int)) (σ := wipe [some (V.ref a), some (.int (k : Int)), some (.int (most : Int)), some (.int (n : Int)), some (.int (m : Int)), none, none, none, none, none, none] [7] |>.set 7 (some (.int (i : Int)))) (H := H3) (ta := tCons (tVar 3) tNil) (j := 8) (vs := [8]) (t := tYes) (te := tC (.int 0)) (fun _ => true) (fun _ => .int 0) (ea_cons (ev_var rfl) ea_nil) (by omega) (fun _ => rfl) (fun _ _ _ _ _ _ Q q => q _ (Ex.refl _)) (fun _ _ _ _ _ => ev_c)
      unfold given at this
      rw [filt_all] at this
      rw [List.map_map]
      exact this
    subst hv
    rw [show (n : Int).toNat = n from Int.toNat_natCast n] at hO
    have hO1 : OLLI H2 H3 p (Fm n fun _ _ => 0) := hO
    have hO2 : OLLI H H3 p (Fm n fun _ _ => 0) := hO1.back (e1.trans e2)
    refine q_asg (ev_op (ev_var rfl) ev_c rv_I0) fun H4 e4 => ?_
    have eH4 := ((e1.trans e2).trans e3).trans e4
    -- the loops
    refine q_forR1 (n := (n : Int)) (ea_cons (ev_var rfl) ea_nil) (by omega) (fun i σ' H' => ∃ f x8 x9 x10, ∃ at_ : Nat, ∃ x7, σ' = [some (.ref a), some (.int (k : Int)), some (.int (most : Int)), some (.int (n : Int)), some (.int (m : Int)), some (.ref p), some (.int (at_ : Int)), x7, x8, x9, x10] ∧ Ex H H' ∧
        OLLI H H' p (Fm n f) ∧ (∀ a b, a < n → b < n → f a b = 0 - f b a ∧ -99 ≤ f a b ∧ f a b ≤ 99) ∧ at_ ≤ k + 2 + 6 * i)
      (fun H5 e5 => ⟨_, _, _, _, k + 2, _, rfl, eH4.trans e5, hO2.mono (e4.trans e5), fun _ _ _ _ => by simp, by omega⟩) (fun i σ' H' hi hP => ?_) (fun σ' H' hP => ?_)
    · obtain ⟨f, x8, x9, x10, at_, x7, rfl, eH, hO, hf, hat⟩ := hP
      have hi' : i < n := by omega
      refine s_forR1 (n := (i : Int)) (ea_cons (ev_var rfl) ea_nil) (by omega) (fun j σ' H' => ∃ f x8 x9 x10, ∃ at_ : Nat, σ' = [some (.ref a), some (.int (k : Int)), some (.int (most : Int)), some (.int (n : Int)), some (.int (m : Int)), some (.ref p), some (.int (at_ : Int)), some (.int (i : Int)), x8, x9, x10] ∧ Ex H H' ∧
          OLLI H H' p (Fm n f) ∧ (∀ a b, a < n → b < n → f a b = 0 - f b a ∧ -99 ≤ f a b ∧ f a b ≤ 99) ∧ at_ ≤ k + 2 + 6 * i + j)
        (fun H5 e5 => ⟨_, _, _, _, at_, rfl, eH.trans e5, hO.mono e5, hf, by omega⟩) (fun j σ' H' hj hP => ?_) (fun σ' H' hP => ?_)
      · obtain ⟨f, x8, x9, x10, at_, rfl, eH, hO, hf, hat⟩ := hP
        have hj' : j < i := by omega
        refine q_asg (ev_cv (hL.mono eH) (ea_cons (ev_var rfl) (ea_cons (ev_var rfl) ea_nil)) (by omega)) fun H5 e5 => ?_
        generalize cellV ns at_ = c
        refine q_asg (ev_op (ev_var rfl) ev_c rv_I0) fun H6 e6 => ?_
        refine q_asg (ev_menu (i := m) (v := .int (([c % 3 - 1, c % 5 - 2, c % 3 - 1, c % 199 - 99] : List Int).getD m 0)) (ea_cons (ev_op (ev_mod (ev_var rfl) ev_c (by decide)) ev_c rv_I0) (ea_cons (ev_op (ev_mod (ev_var rfl) ev_c (by decide)) ev_c rv_I0) (ea_cons (ev_op (ev_mod (ev_var rfl) ev_c (by decide)) ev_c rv_I0) (ea_cons (ev_op (ev_mod (ev_var rfl) ev_c (by decide)) ev_c rv_I0) ea_nil)))) (by show 4 ≤ 100000; decide) (fun _ _ => ev_var rfl) ?_) fun H7 e7 => ?_
        · rcases (show m = 0 ∨ m = 1 ∨ m = 2 ∨ m = 3 by omega) with rfl | rfl | rfl | rfl <;> rfl
        have hnum : ∃ z : Int, ([c % 3 - 1, c % 5 - 2, c % 3 - 1, c % 199 - 99] : List Int).getD m 0 = z ∧ -99 ≤ z ∧ z ≤ 99 := by
          rcases (show m = 0 ∨ m = 1 ∨ m = 2 ∨ m = 3 by omega) with rfl | rfl | rfl | rfl
          · exact ⟨c % 3 - 1, rfl, by omega, by omega⟩
          · exact ⟨c % 5 - 2, rfl, by omega, by omega⟩
          · exact ⟨c % 3 - 1, rfl, by omega, by omega⟩
          · exact ⟨c % 199 - 99, rfl, by omega, by omega⟩
        obtain ⟨z, hz, hz1, hz2⟩ := hnum
        rw [hz]
        have eH7 := ((eH.trans e5).trans e6).trans e7
        have fin : ∀ (y : Int) H8, -99 ≤ y → y ≤ 99 → Ex H7 H8 → tSeq (tAsg (tVar 10) (gSub (tOp (rIxL K) (tVar 5) (tVar 7)) (tVar 8) rSetL)) (tAsg (tOp (rI0 fun i j => V.int (i - j)) (tC (.int 0)) (tVar 10)) (gSub (tOp (rIxL K) (tVar 5) (tVar 8)) (tVar 7) rSetL))
            { nx := fun σ' H' => ∃ f x8 x9 x10, ∃ at_ : Nat, σ' = [some (.ref a), some (.int (k : Int)), some (.int (most : Int)), some (.int (n : Int)), some (.int (m : Int)), some (.ref p), some (.int (at_ : Int)), some (.int (i : Int)), x8, x9, x10] ∧ Ex H H' ∧
                OLLI H H' p (Fm n f) ∧ (∀ a b, a < n → b < n → f a b = 0 - f b a ∧ -99 ≤ f a b ∧ f a b ≤ 99) ∧ at_ ≤ k + 2 + 6 * i + (j + 1), rt := Q }
            [some (.ref a), some (.int (k : Int)), some (.int (most : Int)), some (.int (n : Int)), some (.int (m : Int)), some (.ref p), some (.int (((at_ + 1 : Nat) : Nat) : Int)), some (.int (i : Int)), some (.int (j : Int)), some (.int c), some (.int y)] H8 := fun y H8 hy1 hy2 e8 => by
          refine q_setFm (i := i) (j := j) (hO.mono ((e5.trans e6).trans (e7.trans e8))) (eH7.trans e8) hi' (by omega) (ev_var rfl) (ev_var rfl) (ev_var rfl) (ev_var rfl) fun H9 e9 hO9 => ?_
          refine s_setFm (i := j) (j := i) hO9 e9 (by omega) hi' (ev_op ev_c (ev_var rfl) rv_I0) (ev_var rfl) (ev_var rfl) (ev_var rfl) fun H10 e10 hO10 => ?_
          refine ⟨_, _, _, _, _, rfl, e10, hO10, fun a b ha hb => ?_, by omega⟩
          have hfa := hf a b ha hb
          unfold setF
          by_cases q1 : a = j ∧ b = i
          · obtain ⟨rfl, rfl⟩ := q1
            rw [if_pos ⟨rfl, rfl⟩, if_neg (by omega), if_pos ⟨rfl, rfl⟩]
            omega
          · rw [if_neg q1]
            by_cases q2 : a = i ∧ b = j
            · obtain ⟨rfl, rfl⟩ := q2
              rw [if_pos ⟨rfl, rfl⟩, if_pos ⟨rfl, rfl⟩]
              omega
            · rw [if_neg q2, if_neg (by omega), if_neg (by omega)]
              exact hfa
        refine q_when (et_and (et_test (ev_op (ev_var rfl) ev_c (rv_eq rfl))) fun _ => et_test (ev_op (ev_mod (ev_div (ev_var rfl) ev_c (by decide) (by decide)) ev_c (by decide)) ev_c (rv_eq rfl))) (fun hb H8 e8 => s_asg ev_c fun H9 e9 => ?_) (fun hb H8 e8 => ?_)
        · exact fin 0 H9 (by omega) (by omega) (e8.trans e9)
        · exact fin z H8 hz1 hz2 e8
      · obtain ⟨f, x8, x9, x10, at_, rfl, eH, hO, hf, hat⟩ := hP
        exact ⟨f, _, _, _, at_, _, rfl, eH, hO, hf, by omega⟩
    · obtain ⟨f, x8, x9, x10, at_, x7, rfl, eH, hO, hf, hat⟩ := hP
      exact s_ret (ev_var rfl) fun H5 e5 => q n f H5 p (eH.trans e5) ⟨hn1, by omega, hf⟩ ⟨hnm, hn.symm⟩ (hO.mono e5)
theorem ok__law_copy (T : Txt K mg) : FnOk P w K mg base CX0 (k + 1) T.f__law_copy T.d__law_copy ["form"] (sp__law_copy K) := by
  refine T.F__law_copy.ok sc__law_copy (fun vs H Q E h => ?_) (fun cdv A outer s H vs Q E hr h => ?_)
  · obtain ⟨a, M, rfl, _⟩ := h
    rfl
  · obtain ⟨a, M, rfl, hM, hl, q⟩ := h
    refine ⟨_, (pss_one (ps_ret (pe_lc (own := [("numbers", 1)]) rfl sc__law_copy.nd (pi_listK K (pv 0)) (blkOk_by (own := [("numbers", 1)]) (N := N__law_copy) (sc := defScope s__law_copy) (by decide +kernel)) (fun _ _ _ _ _ => (pg_name (i := 1) sc__law_copy.nd rfl (.inl rfl))) (fun _ _ _ _ _ => pts_nil) (fun _ _ _ _ _ => (pe_callTy (listK K) rfl T.b_list (by decide +kernel) (pa_cons (pv 1) pa_nil)))))), ?_⟩
    obtain ⟨as, hA, hP⟩ := id hM
    have hlen := hP.length
    refine sr_ret (em_lcL (fun i => M.getD i []) (ev_var rfl) hA (by rw [List.length_map]; omega) (fun _ => rfl) (fun i x H1 e1 hx => er_of_evl ?_)) fun v H1 e1 ⟨p, hv, hO⟩ => ?_
    · rw [List.getElem?_map] at hx
      cases hy : as[i]? with
      | none => rw [hy] at hx; cases hx
      | some y =>
        rw [hy] at hx
        cases hx
        obtain ⟨r, h1, h2⟩ := paired_getL hP hy
        rw [List.getD_eq_getElem?_getD, h1]
        exact el_list (ev_var rfl) (h2.mono e1)
    · subst hv
      rw [List.length_map, hlen, ← list_eq_range] at hO
      exact q H1 p e1 hO
end
end AT

/-! ## the known defs' calls in one word; what turning keeps -/
namespace AT
open PySem PySem.Spec PyProof.Rows L2 Evl
section
variable {K : Frag} {σ : St} {H : Hp} {ta : TA} {te t1 : TE} {a p : Addr} {M : List (List Int)} {ns : List Int} {E : XK} {C1 C2 : Addr}
/-- a form drawn -/
def RForm (most : Nat) : R3 := fun H1 H2 v => ∃ n f p, v = .ref p ∧ FormOf n f ∧ n ≤ most ∧ OLLI H1 H2 p (Fm n f)
theorem mon_RForm {most : Nat} : Mon (RForm most) := ⟨fun e ⟨n, f, p, h1, h2, h3, h4⟩ => ⟨n, f, p, h1, h2, h3, h4.mono e⟩, fun e ⟨n, f, p, h1, h2, h3, h4⟩ => ⟨n, f, p, h1, h2, h3, h4.back e⟩⟩
theorem er_form {j most : Nat} (hL : LI K H a ns) (h : EvA ta σ H [.ref a, .int (j : Int), .int (most : Int)]) (hj : j ≤ 1000) (h1 : 1 ≤ most) (h6 : most ≤ 6) : Er (tCall (sp__law_form K) [] E ta) σ H (RForm most) :=
  er_call mon_RForm h fun H1 e1 Q q E => ⟨a, ns, j, most, rfl, hL.mono e1, hj, h1, h6, fun n f H' p e hf hm hO => q _ H' e ⟨n, f, p, rfl, hf, hm.1, hO⟩⟩
theorem er_copy (h : Ev te σ H (.ref a)) (hM : LLI K H a M) (hl : M.length ≤ 1000) : Er (tCall (sp__law_copy K) [] E (tCons te tNil)) σ H (RM M) :=
  er_call mon_RM (ea_cons h ea_nil) fun H1 e1 Q q E => ⟨a, M, rfl, hM.mono e1, hl, fun H' p e hO => q _ H' e ⟨p, rfl, hO⟩⟩
theorem fmI {n : Nat} {f : Nat → Nat → Int} (hf : FormOf n f) : IsForm (Fm n f) := ⟨n, f, rfl, hf⟩
theorem turnF_ext {n k : Nat} {f g : Nat → Nat → Int} (hk : k < n) (h : ∀ i j, i < n → j < n → f i j = g i j) : Fm n (turnF f k) = Fm n (turnF g k) := fm_ext fun a b ha hb => by
  unfold turnF
  rw [h a b ha hb, h a k ha hk, h k b hk hb]
/-- turned: its promise at a form and a box of it -/
theorem spr_turned {n k : Nat} {f : Nat → Nat → Int} (hf : FormOf n f) (hk : k < n) (hM : LLI K H a (Fm n f)) : SpR (sp_turned K C1 C2) [.ref a, .int (k : Int)] H (RM (Fm n (turnF f k))) := fun H1 e1 Q q E => by
  refine ⟨a, _, _, rfl, hM.mono e1, small_fm (by have := hf.2.1; omega), fun hF => absurd (fmI hf) hF, fun n' f' e hf' => ?_⟩
  obtain ⟨rfl, ee⟩ := fm_inj e
  refine ⟨fun j hj hjn H' p e hO => q _ H' e ⟨p, rfl, ?_⟩, fun z => by omega⟩
  have hji : j = k := by omega
  subst hji
  rw [turnF_ext hjn ee]
  exact hO
theorem er_turned {n k : Nat} {f : Nat → Nat → Int} (hf : FormOf n f) (hk : k < n) (hM : LLI K H a (Fm n f)) (h : EvA ta σ H [.ref a, .int (k : Int)]) : Er (tCall (sp_turned K C1 C2) [] E ta) σ H (RM (Fm n (turnF f k))) :=
  er_call mon_RM h (spr_turned hf hk hM)
theorem spv_is_form (hM : LLI K H a M) (hs : SmallM M) : SpV (sp_is_form K) [.ref a] H (.bl (dec (IsForm M))) := fun H1 e1 Q q E => ⟨a, M, rfl, hM.mono e1, hs.1, hs.2, fun b H2 e2 hb => by rw [dec_eq hb]; exact q H2 e2⟩
/-- a new list of lists is like another one -/
theorem spv_like {b : Addr} {N : List (List Int)} (hO : TLL H a M) (hN : LLI K H b N) (hs : SmallM M) : SpV (sp__law_like K) [.ref a, .ref b] H (.bl (decide (M = N))) := fun H1 e1 Q q E => ⟨a, b, M, N, rfl, hO.mono e1, hN.mono e1, hs, q⟩
theorem ev_likeR {t2 : TE} {b : Addr} {N : List (List Int)} (h1 : Er t1 σ H (RM M)) (h2 : Ev t2 σ H (.ref b)) (hN : LLI K H b N) (hs : SmallM M) : Ev (tCall (sp__law_like K) [] E (tCons t1 (tCons t2 tNil))) σ H (.bl (decide (M = N))) :=
  ev_callR1 h1 (ea_cons h2 ea_nil) fun v1 G1 G2 G3 g1 g2 g3 ⟨c, hc, hOc⟩ => by
    subst hc
    exact spv_like (hOc.tll.mono g3) (hN.mono ((g1.trans g2).trans g3)) hs
theorem er_turnedR {t2 : TE} {n k : Nat} {f : Nat → Nat → Int} (hf : FormOf n f) (hk : k < n) (h1 : Er t1 σ H (RM (Fm n f))) (h2 : Ev t2 σ H (.int (k : Int))) : Er (tCall (sp_turned K C1 C2) [] E (tCons t1 (tCons t2 tNil))) σ H (RM (Fm n (turnF f k))) :=
  er_callR1 mon_RM h1 (ea_cons h2 ea_nil) fun v1 G1 G2 G3 g1 g2 g3 ⟨c, hc, hOc⟩ => by
    subst hc
    exact spr_turned hf hk (hOc.lli.mono g3)
theorem ev_isFormR (h1 : Er t1 σ H (RM M)) (hs : SmallM M) : Ev (tCall (sp_is_form K) [] E (tCons t1 tNil)) σ H (.bl (dec (IsForm M))) :=
  ev_callR1 h1 ea_nil fun v1 G1 G2 G3 g1 g2 g3 ⟨c, hc, hOc⟩ => by
    subst hc
    exact spv_is_form (hOc.lli.mono g3) hs
end

/-! ### the rule of turning: skew, undone by itself -/
def Skew (n : Nat) (f : Nat → Nat → Int) : Prop := ∀ i j, i < n → j < n → f i j = 0 - f j i
theorem FormOf.skew {n : Nat} {f : Nat → Nat → Int} (h : FormOf n f) : Skew n f := fun i j hi hj => (h.2.2 i j hi hj).1
theorem thr_neg (a b : Int) : thr (0 - b) (0 - a) = 0 - thr a b := by
  unfold thr
  have e : (0 - b) * (0 - a) = a * b := by rw [Int.zero_sub, Int.zero_sub, Int.neg_mul_neg, Int.mul_comm]
  rw [e]
  by_cases h1 : 0 < a ∧ 0 < b
  · rw [if_neg (by omega), if_pos (by omega), if_pos h1]
  · by_cases h2 : a < 0 ∧ b < 0
    · rw [if_pos (by omega), if_neg h1, if_pos h2]
      omega
    · rw [if_neg (by omega), if_neg (by omega), if_neg h1, if_neg h2]
      rfl
theorem thr_neg' (a b : Int) : thr (0 - a) (0 - b) = 0 - thr a b := by
  unfold thr
  have e : (0 - a) * (0 - b) = a * b := by rw [Int.zero_sub, Int.zero_sub, Int.neg_mul_neg]
  rw [e]
  by_cases h1 : 0 < a ∧ 0 < b
  · rw [if_neg (by omega), if_pos (by omega), if_pos h1]
  · by_cases h2 : a < 0 ∧ b < 0
    · rw [if_pos (by omega), if_neg h1, if_pos h2]
      omega
    · rw [if_neg (by omega), if_neg (by omega), if_neg h1, if_neg h2]
      rfl
theorem turnF_skew {n k : Nat} {f : Nat → Nat → Int} (hs : Skew n f) (hk : k < n) : Skew n (turnF f k) := fun i j hi hj => by
  unfold turnF
  have h1 := hs i j hi hj
  by_cases h : i = k ∨ j = k
  · rw [if_pos h, if_pos (by omega)]
    omega
  · rw [if_neg h, if_neg (by omega), hs j k hj hk, hs k i hk hi, thr_neg]
    omega
theorem turnF_twice {n k : Nat} {f : Nat → Nat → Int} (hk : k < n) : Fm n (turnF (turnF f k) k) = Fm n f := fm_ext fun i j hi hj => by
  by_cases h : i = k ∨ j = k
  · show (if i = k ∨ j = k then 0 - turnF f k i j else _) = _
    rw [if_pos h]
    unfold turnF
    rw [if_pos h]
    omega
  · show (if i = k ∨ j = k then _ else turnF f k i j + thr (turnF f k i k) (turnF f k k j)) = _
    rw [if_neg h]
    have e1 : turnF f k i j = f i j + thr (f i k) (f k j) := by unfold turnF; rw [if_neg h]
    have e2 : turnF f k i k = 0 - f i k := by unfold turnF; rw [if_pos (.inr rfl)]
    have e3 : turnF f k k j = 0 - f k j := by unfold turnF; rw [if_pos (.inl rfl)]
    rw [e1, e2, e3, thr_neg']
    omega
end AT

/-! ## names: lists of all boxes' numbers -/
namespace AT
open PySem PySem.Spec PyProof.Rows L2 Evl
def nI (ps : List Nat) : List Int := ps.map fun x : Nat => (x : Int)
theorem nI_len {ps : List Nat} : (nI ps).length = ps.length := by unfold nI; rw [List.length_map]
/-- ps names the n boxes -/
def Names (n : Nat) (ps : List Nat) : Prop := ps.Perm (List.range n)
def IsNames (n : Nat) (xs : List Int) : Prop := xs.Perm (nI (List.range n))
theorem Names.len {n : Nat} {ps : List Nat} (h : Names n ps) : ps.length = n := by rw [h.length_eq, List.length_range]
theorem Names.nd {n : Nat} {ps : List Nat} (h : Names n ps) : ps.Nodup := (List.Perm.nodup_iff h).mpr List.nodup_range
theorem Names.mem {n : Nat} {ps : List Nat} (h : Names n ps) {x : Nat} : x ∈ ps ↔ x < n := by rw [List.Perm.mem_iff h, List.mem_range]
theorem Names.lt {n i : Nat} {ps : List Nat} (h : Names n ps) (hi : i < n) : ∃ x, ps[i]? = some x ∧ x < n := by
  have hl : i < ps.length := by rw [h.len]; exact hi
  exact ⟨ps[i], List.getElem?_eq_getElem hl, h.mem.mp (List.getElem_mem hl)⟩
theorem Names.ix {n k : Nat} {ps : List Nat} (h : Names n ps) (hk : k < n) : ps.idxOf k < n := by
  have := List.idxOf_lt_length_iff.mpr (h.mem.mpr hk)
  rw [h.len] at this
  exact this
theorem Names.at_ix {n k : Nat} {ps : List Nat} (h : Names n ps) (hk : k < n) : ps[ps.idxOf k]? = some k := by
  have hl := List.idxOf_lt_length_iff.mpr (h.mem.mpr hk)
  rw [List.getElem?_eq_getElem hl, List.getElem_idxOf]
theorem Names.ix_at {n i x : Nat} {ps : List Nat} (h : Names n ps) (hx : ps[i]? = some x) : ps.idxOf x = i := by
  obtain ⟨hi, e⟩ := List.getElem?_eq_some_iff.mp hx
  rw [← e]
  exact h.nd.idxOf_getElem i hi
theorem isNames_iff {n : Nat} {xs : List Int} : IsNames n xs ↔ ∃ ps, Names n ps ∧ xs = nI ps := by
  constructor
  · intro h
    have hx : ∀ x, x ∈ xs → 0 ≤ x := fun x hx => by
      obtain ⟨y, _, rfl⟩ := List.mem_map.mp ((List.Perm.mem_iff h).mp hx)
      omega
    refine ⟨xs.map Int.toNat, ?_, ?_⟩
    · have := h.map Int.toNat
      have e : (nI (List.range n)).map Int.toNat = List.range n := by
        unfold nI
        rw [List.map_map]
        conv => rhs; rw [← List.map_id (List.range n)]
        exact List.map_congr_left fun x _ => by simp
      rw [e] at this
      exact this
    · unfold nI
      rw [List.map_map]
      conv => lhs; rw [← List.map_id xs]
      exact List.map_congr_left fun x hx' => by have := hx x hx'; simp; omega
  · rintro ⟨ps, h, rfl⟩
    exact h.map _
/-- f renamed: at the names of two boxes what stood at the two -/
def renF (f : Nat → Nat → Int) (ps : List Nat) : Nat → Nat → Int := fun i j => f (ps.idxOf i) (ps.idxOf j)
theorem idx_nI (ps : List Nat) (k : Nat) : (nI ps).idxOf (k : Int) = ps.idxOf k := by
  induction ps with
  | nil => rfl
  | cons a r ih =>
    show List.idxOf (k : Int) ((a : Int) :: nI r) = _
    rw [List.idxOf_cons, List.idxOf_cons, ih]
    by_cases e : a = k
    · subst e; simp
    · have : ¬ (a : Int) = (k : Int) := by omega
      have e1 : (a == k) = false := by simpa using e
      have e2 : ((a : Int) == (k : Int)) = false := by simpa using this
      rw [e1, e2]
def sp_renamed_by (K : Frag) : Sp := fun vs H Q _ => ∃ a b n f ps, vs = [.ref a, .ref b] ∧ LLI K H a (Fm n f) ∧ LI K H b (nI ps) ∧ Names n ps ∧ n ≤ 100 ∧ ∀ H' p, Ex H H' → OLLI H H' p (Fm n (renF f ps)) → Q (.ref p) H'
def sp_renamed (K : Frag) (CF CN : Addr) : Sp := fun vs H Q E => ∃ a b M xs, vs = [.ref a, .ref b] ∧ LLI K H a M ∧ SmallM M ∧ LI K H b xs ∧ xs.length < 64 ∧ (¬ IsForm M → ∀ H', Ex H H' → E (.ref CF) none H') ∧
  (∀ n f, M = Fm n f → FormOf n f → (¬ IsNames n xs → ∀ H', Ex H H' → E (.ref CN) none H') ∧ (∀ ps, Names n ps → xs = nI ps → ∀ H' p, Ex H H' → OLLI H H' p (Fm n (renF f ps)) → Q (.ref p) H'))
def sp__law_renamed (K : Frag) : Sp := sp_renamed_by K
def sp__law_some_names (K : Frag) : Sp := fun vs H Q _ => ∃ (a : Addr) (ns : List Int) (k n : Nat), vs = [.ref a, .int (k : Int), .int (n : Int)] ∧ LI K H a ns ∧ k ≤ 1000 ∧ n ≤ 20 ∧ ∀ ps H' p, Ex H H' → Names n ps → OLI H H' p (nI ps) → Q (.ref p) H'
section
variable {P : Program} {w : World} {K : Frag} {mg : Str → Option Value} {base : Heap} {k : Nat}
theorem idx_first {xs : List Int} {k : Int} {m : Nat} {z : Int} (hm : m < xs.idxOf k) (hz : xs[m]? = some z) : z ≠ k := fun e => by
  subst e
  obtain ⟨h, e⟩ := List.getElem?_eq_some_iff.mp hz
  have := List.not_of_lt_findIdx (p := (· == z)) (xs := xs) (show m < List.findIdx (· == z) xs from hm)
  simp at this
  exact this e
/-- xs.index(k) -/
theorem ev_index {σ : St} {H : Hp} {a : Addr} {xs : List Int} {k : Int} {ta tb : TE} (ha : Ev ta σ H (.ref a)) (hb : Ev tb σ H (.int k)) (hL : LI K H a xs) (hk : k ∈ xs) : Ev (tBM K "list" (rIndex K) ta (tCons tb tNil)) σ H (.int ((xs.idxOf k : Nat) : Int)) := fun H1 e Q q =>
  ha H1 e _ fun H2 e2 => ⟨.inl ⟨rfl, _, hL.mono (e.trans e2)⟩, hb H2 (e.trans e2) _ fun H3 e3 => ⟨a, xs.map V.int, .int k, xs.idxOf k, .int k, rfl, rfl, hL.mono ((e.trans e2).trans e3), rfl, by simp [flatV], by
    have hl := List.idxOf_lt_length_iff.mpr hk
    rw [List.getElem?_map, List.getElem?_eq_getElem hl, List.getElem_idxOf]
    rfl, by simp [eqV], fun m z hm hz => by
    rw [List.getElem?_map] at hz
    cases h : xs[m]? with
    | none => rw [h] at hz; cases hz
    | some y =>
      rw [h] at hz
      cases hz
      simpa [eqV] using idx_first hm h, q H3 (e2.trans e3)⟩⟩
/-- list(range(n)) -/
theorem el_rangeL {σ : St} {H : Hp} {n : Nat} {ta : TE} (ha : Ev ta σ H (.int (n : Int))) (hn : n ≤ 100000) : EvL (tLstRg (tRg1 ta)) σ H ((nI (List.range n)).map V.int) := fun H1 e Q q =>
  ha H1 e _ fun H2 e2 => ⟨(n : Int), rfl, RgOk.of_le (by omega) (by omega) (by omega) (by omega), fun p hp => by
    refine q p _ (fresh_back e2 hp) (e2.trans (Ex.new hp)) ?_
    rw [upd_same]
    unfold rgV nI
    rw [List.map_map, show ((n : Int) - 0).toNat = n by omega]
    congr 2
    exact List.map_congr_left fun x _ => by simp⟩
/-- sorted(xs) == list(range(n)), != -/
theorem sorted_range {n : Nat} {xs ys : List Int} (h1 : ys.Perm xs) (h2 : ys.Pairwise (· ≤ ·)) : decide (ys = nI (List.range n)) = dec (IsNames n xs) := dec_eq (by
  rw [decide_eq_true_eq]
  constructor
  · rintro rfl
    exact h1.symm
  · intro h
    refine List.Perm.eq_of_pairwise (fun a b _ _ h1 h2 => Int.le_antisymm h1 h2) h2 ?_ (h1.trans h)
    unfold nI
    rw [List.pairwise_map]
    exact List.pairwise_lt_range.imp fun h => by omega)
theorem er_sorted {σ : St} {H : Hp} {a : Addr} {xs : List Int} {ta : TE} (ha : Ev ta σ H (.ref a)) (hL : LI K H a xs) (h64 : xs.length < 64) : Er (tCB (rSorted K) (tCons ta tNil)) σ H (fun H1 H2 v => ∃ (p : Addr) (ys : List Int), v = .ref p ∧ H1 p = none ∧ ys.Perm xs ∧ ys.Pairwise (· ≤ ·) ∧ H2 p = some (.lst (ys.map V.int))) := fun H1 e Q q =>
  ha H1 e _ fun H2 e2 => ⟨a, xs, rfl, hL.mono (e.trans e2), h64, fun ys p h1 h2 hp => q _ _ (e2.trans (Ex.new hp)) ⟨p, ys, rfl, fresh_back e2 hp, h1, h2, upd_same⟩⟩
theorem ev_isNames {σ : St} {H : Hp} {a : Addr} {n : Nat} {xs : List Int} {ta tb : TE} (ha : Ev ta σ H (.ref a)) (hb : Ev tb σ H (.int (n : Int))) (hL : LI K H a xs) (h64 : xs.length < 64) (hn : n ≤ 100000) :
    Ev (tOp (rEqD K) (tCB (rSorted K) (tCons ta tNil)) (tLstRg (tRg1 tb))) σ H (.bl (dec (IsNames n xs))) := fun H1 e Q q =>
  er_sorted ha hL h64 H1 e _ fun v H2 e2 ⟨p, ys, hv, hp0, h1, h2, hp⟩ => by
    subst hv
    refine el_rangeL hb hn H2 (e.trans e2) _ fun r H3 hr e3 hr3 => ?_
    rw [← sorted_range h1 h2] at q
    exact rv_eqI (sq_of (e3 _ _ hp)) (sq_of hr3) H3 (Ex.refl _) Q fun H4 e4 => q H4 ((e2.trans e3).trans e4)
theorem ev_isNotNames {σ : St} {H : Hp} {a : Addr} {n : Nat} {xs : List Int} {ta tb : TE} (ha : Ev ta σ H (.ref a)) (hb : Ev tb σ H (.int (n : Int))) (hL : LI K H a xs) (h64 : xs.length < 64) (hn : n ≤ 100000) :
    Ev (tOp (rNeD K) (tCB (rSorted K) (tCons ta tNil)) (tLstRg (tRg1 tb))) σ H (.bl (!dec (IsNames n xs))) := fun H1 e Q q =>
  er_sorted ha hL h64 H1 e _ fun v H2 e2 ⟨p, ys, hv, hp0, h1, h2, hp⟩ => by
    subst hv
    refine el_rangeL hb hn H2 (e.trans e2) _ fun r H3 hr e3 hr3 => ?_
    rw [← sorted_range h1 h2] at q
    exact rv_neI (sq_of (e3 _ _ hp)) (sq_of hr3) H3 (Ex.refl _) Q fun H4 e4 => q H4 ((e2.trans e3).trans e4)
theorem nI_erase (ls : List Nat) (i : Nat) : (nI ls).eraseIdx i = nI (ls.eraseIdx i) := map_erase _ ls i
theorem perm_erase : ∀ (ls : List Nat) (i : Nat) (h : i < ls.length), (ls[i] :: ls.eraseIdx i).Perm ls
  | a :: r, 0, _ => List.Perm.refl _
  | a :: r, i + 1, h => by
    have ih := perm_erase r i (by simpa using h)
    show (r[i]'(by simpa using h) :: a :: r.eraseIdx i).Perm (a :: r)
    exact (List.Perm.swap _ _ _).trans (ih.cons a)
theorem nI_get {ps : List Nat} {i x : Nat} (h : ps[i]? = some x) : (nI ps)[i]? = some (x : Int) := by unfold nI; rw [List.getElem?_map, h]; rfl
theorem ok_renamed_by (T : Txt K mg) : FnOk P w K mg base CX0 (k + 1) T.f_renamed_by T.d_renamed_by ["form", "names"] (sp_renamed_by K) := by
  refine T.F_renamed_by.ok sc_renamed_by (fun vs H Q E h => ?_) (fun cdv A outer s H vs Q E hr h => ?_)
  · obtain ⟨a, b, n, f, ps, rfl, _⟩ := h
    rfl
  · obtain ⟨a, b, n, f, ps, rfl, hM, hN, hps, hn, q⟩ := h
    refine ⟨_, (pss_cons (ps_set (i := 2) sc_renamed_by.nd rfl (.inr rfl) (pe_callB (lenK K) rfl T.b_len PySem.boot_len (pa_cons (pv 0) pa_nil)))
      (pss_cons (ps_set (i := 3) sc_renamed_by.nd rfl (.inr rfl) (pe_lc (own := [("k", 4)]) rfl sc_renamed_by.nd (pi_range1 rfl T.b_range (pa_cons (pv 2) pa_nil)) (blkOk_by (own := [("k", 4)]) (N := N_renamed_by) (sc := defScope s_renamed_by) (by decide +kernel)) (fun _ _ _ _ _ => (pg_name (i := 4) sc_renamed_by.nd rfl (.inl rfl))) (fun _ _ _ _ _ => pts_nil) (fun _ _ _ _ _ => (bmK K PySem.F.plainAttrs_list PySem.F.slot_list_index PySem.F.type_list_index (mt_indexK K) (pv 1) (pa_cons (pv 4) pa_nil)))))
      (pss_one (ps_ret (pe_lc (own := [("i", 5)]) rfl sc_renamed_by.nd (pi_range1 rfl T.b_range (pa_cons (pv 2) pa_nil)) (blkOk_by (own := [("i", 5)]) (N := N_renamed_by) (sc := defScope s_renamed_by) (by decide +kernel)) (fun _ _ _ _ _ => (pg_name (i := 5) sc_renamed_by.nd rfl (.inr rfl))) (fun _ _ _ _ _ => pts_nil) (fun _ _ _ _ _ => (pe_lc (own := [("j", 6)]) rfl sc_renamed_by.nd (pi_range1 rfl T.b_range (pa_cons (pv 2) pa_nil)) (blkOk_by (own := [("j", 6)]) (N := N_renamed_by) (sc := relS { kind := .function, names := [(PySem.Str.ofString ".0", PySem.NameKind.local), (PySem.Str.ofString "i", PySem.NameKind.cell), (PySem.Str.ofString "range", PySem.NameKind.globalImplicit), (PySem.Str.ofString "count", PySem.NameKind.free), (PySem.Str.ofString "form", PySem.NameKind.free), (PySem.Str.ofString "place", PySem.NameKind.free)], isGenerator := false, isCoroutine := false, more := [] } (defScope s_renamed_by)) (by decide +kernel)) (fun _ _ _ _ _ => (pg_name (i := 6) sc_renamed_by.nd rfl (.inl rfl))) (fun _ _ _ _ _ => pts_nil) (fun _ _ _ _ _ => (pe_ix (ixL K) (pe_ix (ixL K) (pv 0) (pe_ix (ixL K) (pv 3) (pv 5) (fun _ _ => rfl)) (fun _ _ => rfl)) (pe_ix (ixL K) (pv 3) (pv 6) (fun _ _ => rfl)) (fun _ _ => rfl)))))))))), ?_⟩
    refine q_asg (ev_lenFm (ev_var rfl) hM) fun H1 e1 => ?_
    refine q_asgL (xs := given ((n : Nat) : Int).toNat (fun _ => true) fun i => .int ((ps.idxOf i : Nat) : Int)) (el_lcR1 (n := (n : Int)) (fun _ => true) (fun i => .int ((ps.idxOf i : Nat) : Int)) (ea_cons (ev_var rfl) ea_nil) (by omega) (fun _ => rfl) (fun _ _ _ _ _ _ Q q => q _ (Ex.refl _)) (fun i H2 e2 hi _ => ?_)) fun pl H2 hpl e2 hpl2 => ?_
    · rw [← idx_nI]
      exact ev_index (ev_var rfl) (ev_var rfl) (hN.mono (e1.trans e2)) (by
        unfold nI
        exact List.mem_map.mpr ⟨i, hps.mem.mpr (by omega), rfl⟩)
    have hP : LI K H2 pl (nI ((List.range n).map ps.idxOf)) := sq_of (by
      rw [hpl2]
      unfold given nI
      rw [filt_all, Int.toNat_natCast, List.map_map, List.map_map]
      rfl)
    refine sr_ret (em_lcR (n := (n : Int)) (fun i => (List.range n).map (renF f ps i)) (ea_cons (ev_var rfl) ea_nil) (by omega) (fun _ => rfl) (fun i H3 e3 hi => er_of_evl ?_)) fun v H3 e3 ⟨p, hv, hO⟩ => ?_
    · have hi' : i < n := by omega
      have hP3 := hP.mono e3
      have hM3 := hM.mono ((e1.trans e2).trans e3)
      have := el_lcR1 (n := (n : Int)) (σ := (wipe [some (V.ref a), some (.ref b), some (.int (n : Int)), some (.ref pl), none, none, none] [5]).set 5 (some (.int (i : Int)))) (H := H3) (ta := tCons (tVar 2) tNil) (j := 6) (vs := [6]) (t := tYes) (te := tOp (rIxL K) (tOp (rIxL K) (tVar 0) (tOp (rIxL K) (tVar 3) (tVar 5))) (tOp (rIxL K) (tVar 3) (tVar 6))) (fun _ => true) (fun j => .int (renF f ps i j)) (ea_cons (ev_var rfl) ea_nil) (by omega) (fun _ => rfl) (fun _ _ _ _ _ _ Q q => q _ (Ex.refl _)) (fun j H4 e4 hj _ => by
        have hj' : j < n := by omega
        exact ev_fm (n := n) (f := f) (i := ps.idxOf i) (j := ps.idxOf j) (ev_var rfl) (ev_item (ev_var rfl) (ev_var rfl) (hP3.mono e4) (nI_get (mapr_get hi'))) (ev_item (ev_var rfl) (ev_var rfl) (hP3.mono e4) (nI_get (mapr_get hj'))) (hM3.mono e4) (hps.ix hi') (hps.ix hj'))
      unfold given at this
      rw [filt_all] at this
      rw [List.map_map]
      exact this
    · subst hv
      exact q H3 p ((e1.trans e2).trans e3) (hO.back (e1.trans e2))
theorem ok__law_renamed (T : Txt K mg) : FnOk P w K mg base CX0 (k + 1) T.f__law_renamed T.d__law_renamed ["form", "names"] (sp__law_renamed K) := by
  refine T.F__law_renamed.ok sc__law_renamed (fun vs H Q E h => ?_) (fun cdv A outer s H vs Q E hr h => ?_)
  · obtain ⟨a, b, n, f, ps, rfl, _⟩ := h
    rfl
  · obtain ⟨a, b, n, f, ps, rfl, hM, hN, hps, hn, q⟩ := h
    refine ⟨_, (pss_cons (ps_set (i := 2) sc__law_renamed.nd rfl (.inr rfl) (pe_callB (lenK K) rfl T.b_len PySem.boot_len (pa_cons (pv 0) pa_nil)))
      (pss_cons (ps_setLc (i := 3) (own := [("i", 4)]) rfl sc__law_renamed.nd rfl rfl (sw_true rfl rfl rfl (by decide +kernel)) (pi_range1 rfl T.b_range (pa_cons (pv 2) pa_nil)) (blkOk_by (own := [("i", 4)]) (N := N__law_renamed) (sc := defScope s__law_renamed) (by decide +kernel)) (fun _ _ _ _ _ => (pg_name (i := 4) sc__law_renamed.nd rfl (.inl rfl))) (fun _ _ _ _ _ => pts_nil) (fun _ _ _ _ _ => (pe_lc (own := [("j", 5)]) rfl sc__law_renamed.nd (pi_range1 rfl T.b_range (pa_cons (pv 2) pa_nil)) (blkOk_by (own := [("j", 5)]) (N := N__law_renamed) (sc := relS { kind := .function, names := [(PySem.Str.ofString ".0", PySem.NameKind.local), (PySem.Str.ofString "i", PySem.NameKind.local), (PySem.Str.ofString "range", PySem.NameKind.globalImplicit), (PySem.Str.ofString "count", PySem.NameKind.free)], isGenerator := false, isCoroutine := false, more := [] } (defScope s__law_renamed)) (by decide +kernel)) (fun _ _ _ _ _ => (pg_name (i := 5) sc__law_renamed.nd rfl (.inl rfl))) (fun _ _ _ _ _ => pts_nil) (fun _ _ _ _ _ => pe_int))))
      (pss_cons (ps_for PassesOwn.never rfl (pi_range1 rfl T.b_range (pa_cons (pv 2) pa_nil)) (pg_name (i := 4) sc__law_renamed.nd rfl (.inl rfl))
        (pss_one (ps_for PassesOwn.never rfl (pi_range1 rfl T.b_range (pa_cons (pv 2) pa_nil)) (pg_name (i := 5) sc__law_renamed.nd rfl (.inl rfl))
        (pss_one (ps_asg (pe_ix (ixL K) (pe_ix (ixL K) (pv 0) (pv 4) (fun _ _ => rfl)) (pv 5) (fun _ _ => rfl)) (pg_sub (pe_ix (ixL K) (pv 3) (pe_ix (ixL K) (pv 1) (pv 4) (fun _ _ => rfl)) (fun _ _ => rfl)) (pe_ix (ixL K) (pv 1) (pv 5) (fun _ _ => rfl)) set_list))))))
      (pss_one (ps_ret (pv 3)))))), ?_⟩
    refine q_asg (ev_lenFm (ev_var rfl) hM) fun H1 e1 => ?_
    refine qr_asg (em_lcR (n := (n : Int)) (fun i => (List.range n).map fun _ => 0) (ea_cons (ev_var rfl) ea_nil) (by omega) (fun _ => rfl) (fun i H2 e2 hi => er_of_evl ?_)) fun v H2 e2 ⟨p, hv, hO⟩ => ?_
    · have := el_lcR1 (n := (n : Int)) (σ := (wipe [some (V.ref a), some (.ref b), some (.int (n : Int)), none, none, none] [4]).set 4 (some (.int (i : Int)))) (H := H2) (ta := tCons (tVar 2) tNil) (j := 5) (vs := [5]) (t := tYes) (te := tC (.int 0)) (fun _ => true) (fun _ => .int 0) (ea_cons (ev_var rfl) ea_nil) (by omega) (fun _ => rfl) (fun _ _ _ _ _ _ Q q => q _ (Ex.refl _)) (fun _ _ _ _ _ => ev_c)
      unfold given at this
      rw [filt_all] at this
      rw [List.map_map]
      exact this
    subst hv
    rw [show (n : Int).toNat = n from Int.toNat_natCast n] at hO
    have hO2 : OLLI H H2 p (Fm n fun _ _ => 0) := OLLI.back e1 (show OLLI H1 H2 p (Fm n fun _ _ => 0) from hO)
    have e12 := e1.trans e2
    -- what is done behind i rows and j numbers: at names of less than that
    refine q_forR1 (n := (n : Int)) (ea_cons (ev_var rfl) ea_nil) (by omega) (fun i σ' H' => ∃ g x4 x5, σ' = [some (.ref a), some (.ref b), some (.int (n : Int)), some (.ref p), x4, x5] ∧ Ex H H' ∧ OLLI H H' p (Fm n g) ∧ ∀ x y, x < n → y < n → ps.idxOf x < i → g x y = renF f ps x y)
      (fun H3 e3 => ⟨_, _, _, rfl, e12.trans e3, hO2.mono e3, fun x y hx hy h => absurd h (Nat.not_lt_zero _)⟩) (fun i σ' H' hi hP => ?_) (fun σ' H' hP => ?_)
    · obtain ⟨g, x4, x5, rfl, eH, hO, hg⟩ := hP
      have hi' : i < n := by omega
      obtain ⟨u, hu, hun⟩ := hps.lt hi'
      have hiu := hps.ix_at hu
      refine s_forR1 (n := (n : Int)) (ea_cons (ev_var rfl) ea_nil) (by omega) (fun j σ' H' => ∃ g x5, σ' = [some (.ref a), some (.ref b), some (.int (n : Int)), some (.ref p), some (.int (i : Int)), x5] ∧ Ex H H' ∧ OLLI H H' p (Fm n g) ∧ ∀ x y, x < n → y < n → (ps.idxOf x < i ∨ (ps.idxOf x = i ∧ ps.idxOf y < j)) → g x y = renF f ps x y)
        (fun H3 e3 => ⟨g, _, rfl, eH.trans e3, hO.mono e3, fun x y hx hy h => hg x y hx hy (by omega)⟩) (fun j σ' H' hj hP => ?_) (fun σ' H' hP => ?_)
      · obtain ⟨g, x5, rfl, eH, hO, hg⟩ := hP
        have hj' : j < n := by omega
        obtain ⟨v, hv, hvn⟩ := hps.lt hj'
        have hjv := hps.ix_at hv
        have hM3 := hM.mono eH
        have hN3 := hN.mono eH
        refine s_setFm (i := u) (j := v) hO eH hun hvn (ev_fm (ev_var rfl) (ev_var rfl) (ev_var rfl) hM3 hi' hj') (ev_var rfl) (ev_item (ev_var rfl) (ev_var rfl) hN3 (nI_get hu)) (ev_item (ev_var rfl) (ev_var rfl) hN3 (nI_get hv)) fun H4 e4 hO4 => ⟨_, _, rfl, e4, hO4, fun x y hx hy h => ?_⟩
        unfold setF
        by_cases hxy : x = u ∧ y = v
        · rw [if_pos hxy]
          obtain ⟨rfl, rfl⟩ := hxy
          unfold renF
          rw [hiu, hjv]
        · rw [if_neg hxy]
          refine hg x y hx hy ?_
          rcases h with h | ⟨h1, h2⟩
          · exact .inl h
          · refine .inr ⟨h1, ?_⟩
            by_cases hyj : ps.idxOf y = j
            · refine absurd ⟨?_, ?_⟩ hxy
              · have h3 := hps.at_ix hx
                rw [h1, hu] at h3
                exact (Option.some.inj h3).symm
              · have h3 := hps.at_ix hy
                rw [hyj, hv] at h3
                exact (Option.some.inj h3).symm
            · omega
      · obtain ⟨g, x5, rfl, eH, hO, hg⟩ := hP
        refine ⟨g, _, _, rfl, eH, hO, fun x y hx hy h => hg x y hx hy ?_⟩
        have := hps.ix hy
        by_cases hxi : ps.idxOf x = i
        · exact .inr ⟨hxi, by omega⟩
        · exact .inl (by omega)
    · obtain ⟨g, x4, x5, rfl, eH, hO, hg⟩ := hP
      refine s_ret (ev_var rfl) fun H3 e3 => q H3 p (eH.trans e3) ?_
      have : Fm n g = Fm n (renF f ps) := fm_ext fun x y hx hy => hg x y hx hy (by have := hps.ix hx; omega)
      rw [← this]
      exact hO.mono e3
theorem ok__law_some_names (T : Txt K mg) (G__law_cell : FnOk P w K mg base CX0 k T.f__law_cell T.d__law_cell ["script", "k"] (sp__law_cell K)) : FnOk P w K mg base CX0 (k + 1) T.f__law_some_names T.d__law_some_names ["script", "k", "count"] (sp__law_some_names K) := by
  refine T.F__law_some_names.ok sc__law_some_names (fun vs H Q E h => ?_) (fun cdv A outer s H vs Q E hr h => ?_)
  · obtain ⟨a, ns, k, n, rfl, _⟩ := h
    rfl
  · obtain ⟨a, ns, k, n, rfl, hL, hk, hn, q⟩ := h
    refine ⟨_, (pss_cons (ps_set (i := 3) sc__law_some_names.nd rfl (.inl rfl) (pe_listRg rfl rfl T.b_list (prg_1 rfl T.b_range (pv 2))))
      (pss_cons (ps_set (i := 4) sc__law_some_names.nd rfl (.inl rfl) (pe_lst pa_nil))
      (pss_cons (ps_for PassesOwn.never rfl (pi_range1 rfl T.b_range (pa_cons (pv 2) pa_nil)) (pg_name (i := 5) sc__law_some_names.nd rfl (.inl rfl))
        (pss_one (ps_expr (bmK K PySem.F.plainAttrs_list PySem.F.slot_list_append PySem.F.type_list_append mt_append (pv 4) (pa_cons (bmK K PySem.F.plainAttrs_list PySem.F.slot_list_pop PySem.F.type_list_pop mt_popAt (pv 3) (pa_cons (pe_op op_modN (pe_op op_fdivN (pe_call G__law_cell hr rfl T.m__law_cell T.F__law_cell.kp T.b__law_cell .nil pass0 (pa_cons (pv 0) (pa_cons (pe_op op_add (pv 1) (pv 5)) pa_nil))) (pe_op op_add pe_int (pv 5))) (pe_callB (lenK K) rfl T.b_len PySem.boot_len (pa_cons (pv 3) pa_nil))) pa_nil)) pa_nil)))))
      (pss_one (ps_ret (pv 4)))))), ?_⟩
    refine q_asgL (el_rangeL (ev_var rfl) (by omega)) fun l H1 hl e1 hl1 => ?_
    refine q_asgL (xs := []) (el_lst ea_nil (by simp)) fun p H2 hp e2 hp2 => ?_
    have hlp : l ≠ p := ne_of_none hl1 hp
    refine q_forR1 (n := (n : Int)) (ea_cons (ev_var rfl) ea_nil) (by omega) (fun j σ' H' => ∃ x5, ∃ ls ps : List Nat, σ' = [some (.ref a), some (.int (k : Int)), some (.int (n : Int)), some (.ref l), some (.ref p), x5] ∧ Ex H H' ∧ H' l = some (.lst ((nI ls).map V.int)) ∧ H' p = some (.lst ((nI ps).map V.int)) ∧ ls.length + j = n ∧ ps.length = j ∧ (ps ++ ls).Perm (List.range n))
      (fun H3 e3 => ⟨_, List.range n, [], rfl, (e1.trans e2).trans e3, (e2.trans e3) _ _ hl1, (e3 _ _ hp2 : _), by simp, rfl, List.Perm.refl _⟩) (fun j σ' H' hj hP => ?_) (fun σ' H' hP => ?_)
    · obtain ⟨x5, ls, ps, rfl, eH, hll, hpp, hlen, hpl, hperm⟩ := hP
      have hls : 0 < ls.length := by omega
      have hidx : Ev (tOp (rI (fun _ j => j ≠ 0) fun i j => .int (i.fmod j)) (tOp (rI CDivN fun i j => .int (i.fdiv j)) (tCall (sp__law_cell K) [] E0 (tCons (tVar 0) (tCons (tOp (rI0 fun i j => .int (i + j)) (tVar 1) (tVar 5)) tNil))) (tOp (rI0 fun i j => .int (i + j)) (tC (.int 1)) (tVar 5))) (tCB (rLenS K) (tCons (tVar 3) tNil)))
          [some (.ref a), some (.int (k : Int)), some (.int (n : Int)), some (.ref l), some (.ref p), some (.int (j : Int))] H' (.int (cellV ns (k + j) / (1 + (j : Int)) % ((nI ls).length : Int))) :=
        ev_mod (ev_div (ev_cv (j := k + j) (hL.mono eH) (ea_cons (ev_var rfl) (ea_cons (ev_op (ev_var rfl) (ev_var rfl) rv_I0) ea_nil)) (by omega)) (ev_op ev_c (ev_var rfl) rv_I0) (by omega) (by omega)) (ev_lenLI (ev_var rfl) (sq_of hll)) (by rw [nI_len]; omega)
      rw [nI_len] at hidx
      obtain ⟨i, hi⟩ : ∃ i : Nat, cellV ns (k + j) / (1 + (j : Int)) % (ls.length : Int) = (i : Int) := ⟨(cellV ns (k + j) / (1 + (j : Int)) % (ls.length : Int)).toNat, by have := Int.emod_nonneg (cellV ns (k + j) / (1 + (j : Int))) (show (ls.length : Int) ≠ 0 by omega); omega⟩
      have hil : i < ls.length := by have := Int.emod_lt_of_pos (cellV ns (k + j) / (1 + (j : Int))) (show (0 : Int) < ls.length by omega); omega
      rw [hi] at hidx
      -- names.append(left.pop(i))
      refine ⟨.ref p, rfl, .inl ⟨rfl, _, sq_of hpp⟩, .ref l, rfl, .inl ⟨rfl, _, sq_of hll⟩, hidx H' (Ex.refl _) _ fun H3 e3 => ?_⟩
      have hll3 := e3 _ _ hll
      have hpp3 := e3 _ _ hpp
      refine ⟨l, (nI ls).map V.int, (i : Int), i, .int ((ls[i] : Nat) : Int), rfl, rfl, hll3, by omega, by omega, seqIx (by rw [List.length_map, nI_len]; exact hil), by rw [List.getElem?_map, nI_get (List.getElem?_eq_getElem hil)]; rfl, ?_⟩
      refine ⟨p, (nI ps).map V.int, .int ((ls[i] : Nat) : Int), rfl, rfl, by rw [upd_ne hlp.symm]; exact hpp3, sz_lt (by rw [List.length_map, nI_len]; omega), ?_⟩
      refine ⟨_, ls.eraseIdx i, ps ++ [ls[i]], rfl, Ex.mut (Ex.mut (eH.trans e3) hl) (fresh_back e1 hp), ?_, ?_, ?_, by rw [List.length_append]; simp; omega, ?_⟩
      · rw [upd_ne hlp, upd_same, map_erase, nI_erase]
      · rw [upd_same]
        unfold nI
        rw [List.map_append, List.map_append]
        rfl
      · rw [List.length_eraseIdx_of_lt hil]
        omega
      · refine List.Perm.trans ?_ hperm
        rw [List.append_assoc]
        refine List.Perm.append_left ps ?_
        show (ls[i] :: ls.eraseIdx i).Perm ls
        exact perm_erase ls i hil
    · obtain ⟨x5, ls, ps, rfl, eH, hll, hpp, hlen, hpl, hperm⟩ := hP
      have : ls = [] := List.eq_nil_of_length_eq_zero (by rw [Int.toNat_natCast] at hlen; omega)
      subst this
      rw [List.append_nil] at hperm
      exact s_ret (ev_var rfl) fun H3 e3 => q ps H3 p (eH.trans e3) hperm ⟨fresh_back e1 hp, e3 _ _ hpp⟩
end
end AT

/-! ## all names, one behind the other; the first that lead from one form to another (plain Lean) -/
namespace AT
theorem perm_of_sub {α : Type} [BEq α] [LawfulBEq α] : ∀ {l l' : List α}, l.Nodup → (∀ x, x ∈ l → x ∈ l') → l'.length ≤ l.length → l.Perm l'
  | [], l', _, _, h => by
    have : l' = [] := List.eq_nil_of_length_eq_zero (by simpa using h)
    subst this
    exact List.Perm.refl _
  | a :: t, l', nd, hs, hl => by
    rw [List.nodup_cons] at nd
    have ha : a ∈ l' := hs a List.mem_cons_self
    have hp := List.perm_cons_erase ha
    refine List.Perm.trans (List.Perm.cons a ?_) hp.symm
    refine perm_of_sub nd.2 (fun x hx => ?_) ?_
    · have hxa : x ≠ a := fun e => nd.1 (e ▸ hx)
      exact (List.mem_erase_of_ne hxa).mpr (hs x (List.mem_cons_of_mem _ hx))
    · have := hp.length_eq
      simp only [List.length_cons] at this hl
      omega
def ext (n : Nat) (ps : List Nat) : List (List Nat) := ((List.range n).filter fun x => decide (x ∉ ps)).map fun x => ps ++ [x]
def allAt (n : Nat) : Nat → List (List Nat)
  | 0 => [[]]
  | t + 1 => (allAt n t).flatMap (ext n)
def comp (n : Nat) : Nat → List Nat → List (List Nat)
  | 0, ps => [ps]
  | d + 1, ps => (ext n ps).flatMap (comp n d)
theorem comp_add (n s : Nat) : ∀ (t : Nat) (ps : List Nat), comp n (t + s) ps = (comp n t ps).flatMap (comp n s)
  | 0, ps => by
    rw [Nat.zero_add]
    show comp n s ps = [ps].flatMap (comp n s)
    simp
  | t + 1, ps => by
    rw [show t + 1 + s = (t + s) + 1 by omega]
    show (ext n ps).flatMap (comp n (t + s)) = ((ext n ps).flatMap (comp n t)).flatMap (comp n s)
    rw [List.flatMap_assoc]
    congr 1
    funext q
    exact comp_add n s t q
theorem allAt_comp (n : Nat) : ∀ t, allAt n t = comp n t []
  | 0 => rfl
  | t + 1 => by
    rw [comp_add n 1 t []]
    show (allAt n t).flatMap (ext n) = _
    rw [allAt_comp n t]
    congr 1
    funext q
    show ext n q = (ext n q).flatMap fun x => [x]
    simp
/-- so many boxes named, each once -/
structure Part (n : Nat) (ps : List Nat) : Prop where
  nd : ps.Nodup
  lt : ∀ x, x ∈ ps → x < n
theorem Part.snoc {n x : Nat} {ps : List Nat} (h : Part n ps) (hx : x < n) (hn : x ∉ ps) : Part n (ps ++ [x]) := ⟨by
  rw [List.nodup_append]
  exact ⟨h.nd, by simp, fun a ha b hb => by
    have : b = x := by simpa using hb
    subst this
    exact fun e => hn (e ▸ ha)⟩, fun y hy => by
  rcases List.mem_append.mp hy with hy | hy
  · exact h.lt y hy
  · have : y = x := by simpa using hy
    omega⟩
theorem part_nil {n : Nat} : Part n [] := ⟨List.nodup_nil, fun _ h => by cases h⟩
theorem mem_ext {n : Nat} {ps qs : List Nat} : qs ∈ ext n ps ↔ ∃ x, x < n ∧ x ∉ ps ∧ qs = ps ++ [x] := by
  unfold ext
  simp only [List.mem_map, List.mem_filter, List.mem_range, decide_eq_true_eq]
  constructor
  · rintro ⟨x, ⟨h1, h2⟩, rfl⟩
    exact ⟨x, h1, h2, rfl⟩
  · rintro ⟨x, h1, h2, rfl⟩
    exact ⟨x, ⟨h1, h2⟩, rfl⟩
theorem comp_part {n : Nat} : ∀ {d : Nat} {ps qs : List Nat}, Part n ps → qs ∈ comp n d ps → Part n qs ∧ qs.length = ps.length + d ∧ ps <+: qs
  | 0, ps, qs, h, hq => by
    have : qs = ps := by simpa [comp] using hq
    subst this
    exact ⟨h, rfl, List.prefix_refl _⟩
  | d + 1, ps, qs, h, hq => by
    obtain ⟨rs, h1, h2⟩ := List.mem_flatMap.mp (show qs ∈ (ext n ps).flatMap (comp n d) from hq)
    obtain ⟨x, hx, hn, rfl⟩ := mem_ext.mp h1
    obtain ⟨q1, q2, q3⟩ := comp_part (h.snoc hx hn) h2
    exact ⟨q1, by rw [q2]; simp; omega, (List.prefix_append _ _).trans q3⟩
theorem findSome_fm {α β γ : Type} (p : α → Bool) (g : α → β) (h : β → Option γ) : ∀ l : List α, ((l.filter p).map g).findSome? h = l.findSome? fun x => if p x = true then h (g x) else none
  | [] => rfl
  | a :: r => by
    have ih := findSome_fm p g h r
    by_cases e : p a = true
    · rw [List.filter_cons_of_pos e, List.map_cons, List.findSome?_cons, List.findSome?_cons, if_pos e, ih]
    · rw [List.filter_cons_of_neg e, List.findSome?_cons, if_neg e, ih]
/-- the names lead from f to g -/
def Lead (n : Nat) (f g : Nat → Nat → Int) (qs : List Nat) : Prop := ∀ i j, i < n → j < n → g (qs.getD i 0) (qs.getD j 0) = f i j
/-- .. so far -/
def LeadTo (f g : Nat → Nat → Int) (ps : List Nat) : Prop := ∀ i j, i < ps.length → j < ps.length → g (ps.getD i 0) (ps.getD j 0) = f i j
def Goes (f g : Nat → Nat → Int) (ps : List Nat) (x : Nat) : Prop := ∀ k, k < ps.length → g (ps.getD k 0) x = f k ps.length
theorem getD_snoc_lt {ps : List Nat} {x i : Nat} (h : i < ps.length) : (ps ++ [x]).getD i 0 = ps.getD i 0 := by
  rw [List.getD_eq_getElem?_getD, List.getD_eq_getElem?_getD, List.getElem?_append_left h]
theorem getD_snoc_last {ps : List Nat} {x : Nat} : (ps ++ [x]).getD ps.length 0 = x := by
  rw [List.getD_eq_getElem?_getD, List.getElem?_append_right (Nat.le_refl _)]
  simp
theorem getD_lt {n i : Nat} {ps : List Nat} (h : Part n ps) (hi : i < ps.length) : ps.getD i 0 < n := by
  rw [List.getD_eq_getElem?_getD, List.getElem?_eq_getElem hi]
  exact h.lt _ (List.getElem_mem hi)
theorem leadTo_snoc {n x : Nat} {f g : Nat → Nat → Int} {ps : List Nat} (hf : Skew n f) (hg : Skew n g) (hP : Part n ps) (hl : ps.length < n) (hx : x < n) (h : LeadTo f g ps) (hG : Goes f g ps x) : LeadTo f g (ps ++ [x]) := fun i j hi hj => by
  rw [List.length_append, List.length_singleton] at hi hj
  by_cases h1 : i < ps.length
  · rw [getD_snoc_lt h1]
    by_cases h2 : j < ps.length
    · rw [getD_snoc_lt h2]
      exact h i j h1 h2
    · have : j = ps.length := by omega
      subst this
      rw [getD_snoc_last]
      exact hG i h1
  · have : i = ps.length := by omega
    subst this
    rw [getD_snoc_last]
    by_cases h2 : j < ps.length
    · rw [getD_snoc_lt h2, hg x _ hx (getD_lt hP h2), hG j h2, ← hf _ _ hl (by omega)]
    · have : j = ps.length := by omega
      subst this
      rw [getD_snoc_last]
      have a1 := hg x x hx hx
      have a2 := hf ps.length ps.length hl hl
      omega
theorem lead_prefix {n x : Nat} {f g : Nat → Nat → Int} {ps qs : List Nat} (hl : qs.length = n) (hp : ps ++ [x] <+: qs) (h : Lead n f g qs) : Goes f g ps x := fun k hk => by
  obtain ⟨r, rfl⟩ := hp
  have hlen : ps.length < n := by
    rw [← hl, List.length_append, List.length_append, List.length_singleton]
    omega
  have := h k ps.length (by omega) hlen
  have e1 : ((ps ++ [x]) ++ r).getD k 0 = ps.getD k 0 := by
    rw [List.getD_eq_getElem?_getD, List.getElem?_append_left (by simp; omega), ← List.getD_eq_getElem?_getD, getD_snoc_lt hk]
  have e2 : ((ps ++ [x]) ++ r).getD ps.length 0 = x := by
    rw [List.getD_eq_getElem?_getD, List.getElem?_append_left (by simp), ← List.getD_eq_getElem?_getD, getD_snoc_last]
  rw [e1, e2] at this
  exact this
/-- the first of the names behind ps that lead from f to g -/
noncomputable def firstN (n : Nat) (f g : Nat → Nat → Int) (d : Nat) (ps : List Nat) : Option (List Nat) := (comp n d ps).find? fun qs => dec (Lead n f g qs)
theorem firstN_zero {n : Nat} {f g : Nat → Nat → Int} {ps : List Nat} (hl : ps.length = n) (h : LeadTo f g ps) : firstN n f g 0 ps = some ps := by
  have : dec (Lead n f g ps) = true := dec_true fun i j hi hj => h i j (by omega) (by omega)
  show [ps].find? _ = _
  rw [List.find?_cons, this]
theorem firstN_succ {n d : Nat} {f g : Nat → Nat → Int} {ps : List Nat} (hP : Part n ps) (hl : ps.length + (d + 1) = n) : firstN n f g (d + 1) ps = (List.range n).findSome? fun x => if dec (x ∉ ps ∧ Goes f g ps x) = true then firstN n f g d (ps ++ [x]) else none := by
  show ((ext n ps).flatMap (comp n d)).find? _ = _
  rw [List.find?_flatMap]
  unfold ext
  rw [findSome_fm]
  have key : ∀ x ∈ List.range n, (if decide (x ∉ ps) = true then (comp n d (ps ++ [x])).find? (fun qs => dec (Lead n f g qs)) else none) = if dec (x ∉ ps ∧ Goes f g ps x) = true then firstN n f g d (ps ++ [x]) else none := fun x hx => by
    by_cases h1 : x ∉ ps
    · rw [if_pos (decide_eq_true h1)]
      by_cases h2 : Goes f g ps x
      · rw [if_pos (dec_true ⟨h1, h2⟩)]; rfl
      · rw [if_neg (fun z => h2 (of_dec z).2)]
        refine List.find?_eq_none.mpr fun qs hq => ?_
        obtain ⟨q1, q2, q3⟩ := comp_part (hP.snoc (List.mem_range.mp hx) h1) hq
        rw [dec_false fun hL => h2 (lead_prefix (by rw [q2]; simp; omega) q3 hL)]
        exact Bool.false_ne_true
    · rw [if_neg (by simpa using h1), if_neg (fun z => h1 (of_dec z).1)]
  exact findSome_congr key
where
  findSome_congr {α β : Type} {l : List α} {p q : α → Option β} (h : ∀ x ∈ l, p x = q x) : l.findSome? p = l.findSome? q := by
    induction l with
    | nil => rfl
    | cons a r ih =>
      rw [List.findSome?_cons, List.findSome?_cons, h a List.mem_cons_self, ih fun x hx => h x (List.mem_cons_of_mem _ hx)]
theorem findSome_none {α β : Type} {p : α → Option β} : ∀ {l : List α}, (∀ x ∈ l, p x = none) → l.findSome? p = none
  | [], _ => rfl
  | a :: r, h => by
    rw [List.findSome?_cons, h a List.mem_cons_self]
    exact findSome_none fun x hx => h x (List.mem_cons_of_mem _ hx)
/-- the i-th is the first that gives anything -/
theorem findSome_at {β : Type} {p : Nat → Option β} {b : β} : ∀ {n i s : Nat}, i < n → (∀ j, j < i → p (s + j) = none) → p (s + i) = some b → ((List.range' s n).findSome? p) = some b
  | 0, i, s, h, _, _ => absurd h (Nat.not_lt_zero _)
  | n + 1, 0, s, _, _, h => by
    rw [List.range'_succ, List.findSome?_cons, show p s = some b from h]
  | n + 1, i + 1, s, h, h1, h2 => by
    have h0 := h1 0 (by omega)
    rw [List.range'_succ, List.findSome?_cons, show p s = none from h0]
    exact findSome_at (n := n) (i := i) (s := s + 1) (by omega) (fun j hj => by have := h1 (j + 1) (by omega); rwa [show s + 1 + j = s + (j + 1) by omega]) (by rwa [show s + 1 + i = s + (i + 1) by omega])
theorem findSome_range {β : Type} {p : Nat → Option β} {b : β} {n i : Nat} (h : i < n) (h1 : ∀ j, j < i → p j = none) (h2 : p i = some b) : (List.range n).findSome? p = some b := by
  rw [List.range_eq_range']
  exact findSome_at (s := 0) h (fun j hj => by rw [Nat.zero_add]; exact h1 j hj) (by rw [Nat.zero_add]; exact h2)
end AT

/-! ## alike -/
namespace AT
open PySem PySem.Spec PyProof.Rows L2 Evl
def sp_goes_on (K : Frag) : Sp := fun vs H Q _ => ∃ (a b c : Addr) (n : Nat) (f g : Nat → Nat → Int) (ps : List Nat) (x : Nat), vs = [.ref a, .ref b, .ref c, .int (x : Int)] ∧ LLI K H a (Fm n f) ∧ LLI K H b (Fm n g) ∧ LI K H c (nI ps) ∧ Part n ps ∧ ps.length < n ∧ x < n ∧ n ≤ 100 ∧ ∀ H', Ex H H' → Q (.bl (dec (Goes f g ps x))) H'
/-- what comes back: None, or the list that was handed in, or a new one -/
def RNames (c : Addr) (o : Option (List Nat)) : R3 := fun H1 H2 v => match o with
  | none => v = .non
  | some qs => ∃ p, v = .ref p ∧ H2 p = some (.lst ((nI qs).map V.int)) ∧ (p = c ∨ H1 p = none)
def sp_first_names (K : Frag) (d : Nat) : Sp := fun vs H Q _ => ∃ (a b c : Addr) (n : Nat) (f g : Nat → Nat → Int) (ps : List Nat), vs = [.ref a, .ref b, .ref c] ∧ LLI K H a (Fm n f) ∧ LLI K H b (Fm n g) ∧ H c = some (.lst ((nI ps).map V.int)) ∧ Part n ps ∧ LeadTo f g ps ∧ ps.length + d = n ∧ n ≤ 100 ∧ Skew n f ∧ Skew n g ∧ ∀ v H', Ex H H' → RNames c (firstN n f g d ps) H H' v → Q v H'
/-- None, or a new list of the names -/
def RNew (o : Option (List Nat)) : R3 := fun H1 H2 v => match o with
  | none => v = .non
  | some qs => ∃ p, v = .ref p ∧ OLI H1 H2 p (nI qs)
theorem mon_RNew {o : Option (List Nat)} : Mon (RNew o) := by
  cases o with
  | none => exact ⟨fun _ h => h, fun _ h => h⟩
  | some qs => exact ⟨fun e ⟨p, h, q⟩ => ⟨p, h, q.mono e⟩, fun e ⟨p, h, q⟩ => ⟨p, h, q.back e⟩⟩
noncomputable def alikeV (n m : Nat) (f g : Nat → Nat → Int) : Option (List Nat) := if n = m then firstN n f g n [] else none
def sp_alike (K : Frag) : Sp := fun vs H Q _ => ∃ (a b : Addr) (n m : Nat) (f g : Nat → Nat → Int), vs = [.ref a, .ref b] ∧ LLI K H a (Fm n f) ∧ LLI K H b (Fm m g) ∧ FormOf n f ∧ FormOf m g ∧ ∀ v H', Ex H H' → RNew (alikeV n m f g) H H' v → Q v H'
theorem inV_nI (x : Nat) (ps : List Nat) : inV (.int (x : Int)) ((nI ps).map V.int) = decide (x ∈ ps) := by
  unfold inV nI
  induction ps with
  | nil => rfl
  | cons a r ih =>
    rw [List.map_cons, List.map_cons, List.any_cons, ih]
    show ((a : Int) == (x : Int) || decide (x ∈ r)) = decide (x ∈ a :: r)
    by_cases e : a = x
    · subst e; simp
    · have e1 : ((a : Int) == (x : Int)) = false := by simpa using (show ¬ (a : Int) = (x : Int) by omega)
      rw [e1, Bool.false_or]
      simp only [List.mem_cons]
      by_cases h : x ∈ r
      · simp [h]
      · have : ¬ x = a := fun z => e z.symm
        simp [h, this]
theorem flat_ints (xs : List Int) : (xs.map V.int).all flatV = true := by simp [flatV]
section
variable {P : Program} {w : World} {K : Frag} {mg : Str → Option Value} {base : Heap} {k : Nat}
theorem ev_nin {σ : St} {H : Hp} {c : Addr} {x : Nat} {ps : List Nat} {ta tb : TE} (ha : Ev ta σ H (.int (x : Int))) (hb : Ev tb σ H (.ref c)) (hL : LI K H c (nI ps)) : Ev (tOp (rIn K true) ta tb) σ H (.bl (decide (x ∉ ps))) :=
  ev_is (ev_op ha hb (rv_niL hL rfl (flat_ints _))) (by rw [inV_nI]; by_cases h : x ∈ ps <;> simp [h])
/-- xs + [x] -/
theorem el_snoc {σ : St} {H : Hp} {c : Addr} {x : Nat} {ps : List Nat} {ta tb : TE} (ha : Ev ta σ H (.ref c)) (hc : H c = some (.lst ((nI ps).map V.int))) (hb : Ev tb σ H (.int (x : Int))) (hl : ps.length ≤ 1000) : EvL (tOp rCat ta (tLst (tCons tb tNil))) σ H ((nI (ps ++ [x])).map V.int) := fun H1 e Q q =>
  ha H1 e _ fun H2 e2 => (el_lst (ea_cons hb ea_nil) (by show 1 ≤ 100000; decide) : EvL (tLst (tCons tb tNil)) σ H [.int (x : Int)]) H2 (e.trans e2) _ fun r H3 hr e3 hr3 => ⟨c, r, _, _, rfl, rfl, ((e.trans e2).trans e3) _ _ hc, hr3, by
    rw [List.length_map, nI_len]
    exact sz_of (by show ps.length + 1 ≤ 100000; omega), fun p hp => q p _ (fresh_back (e2.trans e3) hp) ((e2.trans e3).trans (Ex.new hp)) (by
      rw [upd_same]
      unfold nI
      rw [List.map_append, List.map_append]
      rfl)⟩
end
end AT

/-! ## all names, by the law -/
namespace AT
open PySem PySem.Spec PyProof.Rows L2 Evl
/-- a tracked list of tracked lists of ints -/
def TL (H : Hp) (a : Addr) (M : List (List Int)) : Prop := ∃ as : List Addr, H a = some (.lst (as.map V.ref)) ∧ Paired (fun x r => H x = some (.lst (r.map V.int))) as M
theorem TL.mono {H H' : Hp} {a : Addr} {M : List (List Int)} (e : Ex H H') (h : TL H a M) : TL H' a M := by
  obtain ⟨as, h1, h2⟩ := h
  exact ⟨as, e _ _ h1, paired_mono h2 fun _ _ q => e _ _ q⟩
theorem TL.lli {K : Frag} {H : Hp} {a : Addr} {M : List (List Int)} (h : TL H a M) : LLI K H a M := by
  obtain ⟨as, h1, h2⟩ := h
  exact ⟨as, sq_of h1, paired_mono h2 fun _ _ q => sq_of q⟩
theorem OLLI.tl {H0 H : Hp} {a : Addr} {M : List (List Int)} (h : OLLI H0 H a M) : TL H a M := by
  obtain ⟨as, _, h1, _, h2⟩ := h
  exact ⟨as, h1, paired_mono h2 fun _ _ q => q.2⟩
theorem ext_len (n : Nat) (ps : List Nat) : (ext n ps).length ≤ n := by
  unfold ext
  rw [List.length_map]
  exact filt_len _ n
theorem flat_len {α β : Type} {g : α → List β} {c : Nat} : ∀ l : List α, (∀ x, x ∈ l → (g x).length ≤ c) → (l.flatMap g).length ≤ l.length * c
  | [], _ => by simp
  | a :: r, h => by
    have h1 := h a List.mem_cons_self
    have h2 := flat_len r fun x hx => h x (List.mem_cons_of_mem _ hx)
    rw [List.flatMap_cons, List.length_append, List.length_cons, Nat.add_mul]
    omega
theorem allAt_len {n : Nat} (h : n ≤ 6) : ∀ t, t ≤ 6 → (allAt n t).length ≤ 6 ^ t
  | 0, _ => by simp [allAt]
  | t + 1, ht => by
    have h1 := flat_len (g := ext n) (c := 6) (allAt n t) fun x _ => Nat.le_trans (ext_len n x) h
    have h2 := allAt_len h t (by omega)
    show ((allAt n t).flatMap (ext n)).length ≤ 6 ^ (t + 1)
    rw [Nat.pow_succ]
    exact Nat.le_trans h1 (Nat.mul_le_mul_right 6 h2)
theorem pow6 {t : Nat} (h : t ≤ 6) : 6 ^ t ≤ 46656 := Nat.le_trans (Nat.pow_le_pow_right (by decide) h) (by decide)
theorem allAt_small {n t : Nat} (h : n ≤ 6) (ht : t ≤ 6) : (allAt n t).length ≤ 46656 := Nat.le_trans (allAt_len h t ht) (pow6 ht)
theorem mem_allAt {n t : Nat} {qs : List Nat} (h : qs ∈ allAt n t) : Part n qs ∧ qs.length = t := by
  rw [allAt_comp] at h
  obtain ⟨h1, h2, _⟩ := comp_part part_nil h
  exact ⟨h1, by rw [h2]; simp⟩
theorem Part.names {n : Nat} {qs : List Nat} (h : Part n qs) (hl : qs.length = n) : Names n qs := perm_of_sub h.nd (fun x hx => List.mem_range.mpr (h.lt x hx)) (by rw [List.length_range]; omega)
theorem names_allAt {n : Nat} {qs : List Nat} (h : qs ∈ allAt n n) : Names n qs := by
  obtain ⟨h1, h2⟩ := mem_allAt h
  exact h1.names h2
/-- renamed so it is the other one just where the names lead there -/
theorem lead_ren {n : Nat} {f g : Nat → Nat → Int} {qs : List Nat} (h : Names n qs) : Fm n (renF f qs) = Fm n g ↔ Lead n f g qs := by
  constructor
  · intro e i j hi hj
    obtain ⟨x, hx, hxn⟩ := h.lt hi
    obtain ⟨y, hy, hyn⟩ := h.lt hj
    have := (fm_inj e).2 x y hxn hyn
    unfold renF at this
    rw [h.ix_at hx, h.ix_at hy] at this
    rw [List.getD_eq_getElem?_getD, List.getD_eq_getElem?_getD, hx, hy]
    exact this.symm
  · intro hL
    refine fm_ext fun x y hx hy => ?_
    have := hL _ _ (h.ix hx) (h.ix hy)
    rw [List.getD_eq_getElem?_getD, List.getD_eq_getElem?_getD, h.at_ix hx, h.at_ix hy] at this
    exact this.symm
def sp__law_all_names : Sp := fun vs H Q _ => ∃ n : Nat, vs = [.int (n : Int)] ∧ n ≤ 6 ∧ ∀ H' p, Ex H H' → H p = none → TL H' p ((allAt n n).map nI) → Q (.ref p) H'
section
variable {P : Program} {w : World} {K : Frag} {mg : Str → Option Value} {base : Heap} {k : Nat}
/-- [names + [x] for x in range(n) if x not in names] -/
theorem er_ext {σ : St} {H : Hp} {c : Addr} {n : Nat} {ps : List Nat} {ta : TA} {tn : TE} {j : Nat} {ws : List Nat} (ha : EvA ta σ H [.int (n : Int)]) (hn : n ≤ 100) (hw : ∀ x, wipe ((wipe σ ws).set j (some x)) ws = wipe σ ws)
    (hc : H c = some (.lst ((nI ps).map V.int))) (hl : ps.length ≤ 1000) (hv : ∀ (i : Nat) H1, Ev tn ((wipe σ ws).set j (some (.int (i : Int)))) H1 (.ref c)) (hj : ∀ i : Nat, ((wipe σ ws).set j (some (.int (i : Int))))[j]? = some (some (.int (i : Int)))) :
    Er (tLc (iRng1 ta) (gName j) (tTest (tOp (rIn K true) (tVar j) tn)) (tOp rCat tn (tLst (tCons (tVar j) tNil))) ws) σ H (fun H1 H2 v => ∃ p, v = .ref p ∧ H1 p = none ∧ TL H2 p ((ext n ps).map nI)) := fun H1 e Q q => by
  have h := er_lcR (te := tOp rCat tn (tLst (tCons (tVar j) tNil))) (t := tTest (tOp (rIn K true) (tVar j) tn)) (fun i => decide (i ∉ ps)) (fun i => RL (nI (ps ++ [i]))) (fun i => mon'_RL) ha (by omega) hw
    (fun i H2 e2 _ => et_test (ev_nin (ev_var (hj i)) (hv i H2) (sq_of (e2 _ _ hc))))
    (fun i H2 e2 _ _ => er_of_evl (el_snoc (hv i H2) (e2 _ _ hc) (ev_var (hj i)) hl))
  refine h H1 e Q fun v H2 e2 ⟨p, vs, hv, hp, hp2, hP⟩ => q v H2 e2 ⟨p, hv, hp, ?_⟩
  rw [Int.toNat_natCast] at hP
  have key : ∀ {vs : List V} {idx : List Nat}, Paired (fun v i => RL (nI (ps ++ [i])) H1 H2 v) vs idx → ∃ as : List Addr, vs = as.map V.ref ∧ Paired (fun x r => H2 x = some (.lst (r.map V.int))) as ((idx.map fun x => ps ++ [x]).map nI) := fun {vs idx} hP => by
    induction hP with
    | nil => exact ⟨[], rfl, .nil⟩
    | cons r t ih =>
      obtain ⟨x, hx, h1, h2⟩ := r
      obtain ⟨as, ha, hb⟩ := ih
      subst hx; subst ha
      exact ⟨x :: as, rfl, .cons h2 hb⟩
  obtain ⟨as, ha, hb⟩ := key hP
  subst ha
  exact ⟨as, hp2, hb⟩
end
end AT

/-! ## names in order -/
namespace AT
open PySem
theorem ltI_self : ∀ xs : List Int, ltI xs xs = false
  | [] => rfl
  | x :: xs => by
    show PySem.W.listLt (x :: xs) (x :: xs) = false
    rw [PySem.W.listLt, if_pos rfl]
    exact ltI_self xs
theorem ltI_pre (ps a b : List Int) : ltI (ps ++ a) (ps ++ b) = ltI a b := by
  induction ps with
  | nil => rfl
  | cons p ps ih =>
    show PySem.W.listLt (p :: (ps ++ a)) (p :: (ps ++ b)) = _
    rw [PySem.W.listLt, if_pos rfl]
    exact ih
theorem ltI_asym : ∀ {a b : List Int}, ltI a b = true → ltI b a = false
  | [], [], h => by cases h
  | [], _ :: _, _ => rfl
  | _ :: _, [], h => by cases h
  | x :: xs, y :: ys, h => by
    have h : PySem.W.listLt (x :: xs) (y :: ys) = true := h
    show PySem.W.listLt (y :: ys) (x :: xs) = false
    rw [PySem.W.listLt] at h ⊢
    by_cases e : x = y
    · rw [if_pos e] at h
      rw [if_pos e.symm]
      exact ltI_asym h
    · rw [if_neg e] at h
      rw [if_neg (fun z => e z.symm)]
      have h : decide (x < y) = true := h
      show decide (y < x) = false
      rw [decide_eq_true_eq] at h
      rw [decide_eq_false_iff_not]
      omega
/-- those that go on from ps stand in order -/
theorem comp_sorted {n : Nat} : ∀ (d : Nat) {ps : List Nat}, Part n ps → (comp n d ps).Pairwise fun a b => ltI (nI a) (nI b) = true
  | 0, ps, _ => List.pairwise_singleton _ _
  | d + 1, ps, hp => by
    show ((ext n ps).flatMap (comp n d)).Pairwise _
    rw [List.pairwise_flatMap]
    refine ⟨fun qs hqs => ?_, ?_⟩
    · obtain ⟨x, hx, hn, rfl⟩ := mem_ext.mp hqs
      exact comp_sorted d (hp.snoc hx hn)
    · unfold ext
      rw [List.pairwise_map]
      have h1 : ((List.range n).filter fun x => decide (x ∉ ps)).Pairwise (· < ·) := List.Pairwise.filter _ List.pairwise_lt_range
      refine List.Pairwise.imp_of_mem (fun {x y} hx hy hlt => ?_) h1
      intro a ha b hb
      rw [List.mem_filter, List.mem_range, decide_eq_true_eq] at hx hy
      obtain ⟨s, rfl⟩ := (comp_part (hp.snoc hx.1 hx.2) ha).2.2
      obtain ⟨t, rfl⟩ := (comp_part (hp.snoc hy.1 hy.2) hb).2.2
      have e1 : nI (ps ++ [x] ++ s) = nI ps ++ ((x : Int) :: nI s) := by unfold nI; simp
      have e2 : nI (ps ++ [y] ++ t) = nI ps ++ ((y : Int) :: nI t) := by unfold nI; simp
      rw [e1, e2, ltI_pre]
      show PySem.W.listLt ((x : Int) :: nI s) ((y : Int) :: nI t) = true
      rw [PySem.W.listLt, if_neg (by omega)]
      show decide ((x : Int) < (y : Int)) = true
      rw [decide_eq_true_eq]
      omega
theorem find_sorted {α : Type} {R : α → α → Prop} {p : α → Bool} : ∀ {l : List α} {x y : α}, l.Pairwise R → l.find? p = some x → y ∈ l → p y = true → x = y ∨ R x y
  | [], _, _, _, h, _, _ => by cases h
  | a :: l, x, y, hR, h, hy, hp => by
    rw [List.pairwise_cons] at hR
    rw [List.find?_cons] at h
    by_cases ha : p a = true
    · rw [ha] at h
      have h : some a = some x := h
      cases h
      rcases List.mem_cons.mp hy with rfl | hy
      · exact .inl rfl
      · exact .inr (hR.1 y hy)
    · have ha' : p a = false := by simpa using ha
      rw [ha'] at h
      rcases List.mem_cons.mp hy with rfl | hy
      · exact absurd hp ha
      · exact find_sorted hR.2 h hy hp
theorem names_part {n : Nat} {ps : List Nat} (h : Names n ps) : Part n ps := ⟨h.nd, fun x hx => h.mem.mp hx⟩
theorem mem_comp_pre {n : Nat} : ∀ (d : Nat) {ps qs : List Nat}, Part n qs → ps <+: qs → qs.length = ps.length + d → qs ∈ comp n d ps
  | 0, ps, qs, _, hp, hl => by
    have e : ps = qs := hp.eq_of_length (by omega)
    subst e
    exact List.mem_singleton.mpr rfl
  | d + 1, ps, qs, hq, ⟨t, ht⟩, hl => by
    show qs ∈ (ext n ps).flatMap (comp n d)
    cases t with
    | nil =>
      rw [List.append_nil] at ht
      rw [ht] at hl
      omega
    | cons x t =>
      have hx : x ∈ qs := by rw [← ht]; simp
      have hnd : (ps ++ x :: t).Nodup := by rw [ht]; exact hq.nd
      have hxp : x ∉ ps := fun z => by
        rw [List.nodup_append] at hnd
        exact hnd.2.2 x z x List.mem_cons_self rfl
      exact List.mem_flatMap.mpr ⟨ps ++ [x], mem_ext.mpr ⟨x, hq.lt x hx, hxp, rfl⟩, mem_comp_pre d hq ⟨t, by rw [← ht]; simp⟩ (by simp; omega)⟩
theorem mem_comp {n : Nat} {ps : List Nat} (h : Names n ps) : ps ∈ comp n n [] := mem_comp_pre n (names_part h) ⟨ps, rfl⟩ (by rw [h.len]; simp)
theorem names_getD {n i : Nat} {ps : List Nat} (h : Names n ps) (hi : i < n) : ps.getD i 0 < n ∧ ps.idxOf (ps.getD i 0) = i := by
  obtain ⟨x, h1, h2⟩ := h.lt hi
  have e : ps.getD i 0 = x := by rw [List.getD_eq_getElem?_getD, h1]; rfl
  rw [e]
  exact ⟨h2, h.ix_at h1⟩
theorem lead_self {n : Nat} {f : Nat → Nat → Int} {ps : List Nat} (h : Names n ps) : Lead n f (renF f ps) ps := fun i j hi hj => by
  unfold renF
  rw [(names_getD h hi).2, (names_getD h hj).2]
/-- the names the other way -/
def invN (n : Nat) (ps : List Nat) : List Nat := (List.range n).map fun i => ps.idxOf i
theorem idx_inj {n i j : Nat} {ps : List Nat} (h : Names n ps) (hi : i < n) (hj : j < n) (e : ps.idxOf i = ps.idxOf j) : i = j := by
  have h1 := h.at_ix hi
  have h2 := h.at_ix hj
  rw [e, h2] at h1
  injection h1 with h1
  exact h1.symm
theorem invN_names {n : Nat} {ps : List Nat} (h : Names n ps) : Names n (invN n ps) := by
  refine perm_of_sub ?_ (fun x hx => ?_) (by unfold invN; simp)
  · unfold invN
    rw [List.Nodup, List.pairwise_map]
    refine List.Pairwise.imp_of_mem (fun {i j} hi hj hne e => hne (idx_inj h (List.mem_range.mp hi) (List.mem_range.mp hj) e)) List.nodup_range
  · obtain ⟨i, hi, rfl⟩ := List.mem_map.mp hx
    exact List.mem_range.mpr (h.ix (List.mem_range.mp hi))
theorem invN_getD {n i : Nat} {ps : List Nat} (hi : i < n) : (invN n ps).getD i 0 = ps.idxOf i := by
  unfold invN
  rw [List.getD_eq_getElem?_getD, List.getElem?_map, List.getElem?_range hi]
  rfl
theorem lead_inv {n : Nat} {f : Nat → Nat → Int} {ps : List Nat} : Lead n (renF f ps) f (invN n ps) := fun i j hi hj => by
  rw [invN_getD hi, invN_getD hj]
  rfl
/-- alike finds the first names that lead -/
theorem alikeV_some {n : Nat} {f g : Nat → Nat → Int} {ps : List Nat} (h : Names n ps) (hl : Lead n f g ps) : ∃ qs, alikeV n n f g = some qs ∧ Names n qs ∧ Lead n f g qs ∧ ltI (nI ps) (nI qs) = false := by
  unfold alikeV firstN
  rw [if_pos rfl]
  cases e : (comp n n []).find? fun qs => dec (Lead n f g qs) with
  | none =>
    have := List.find?_eq_none.mp e ps (mem_comp h)
    exact absurd (dec_true hl) this
  | some qs =>
    have h1 := List.mem_of_find?_eq_some e
    have h2 := List.find?_some e
    have hc := comp_part part_nil h1
    refine ⟨qs, rfl, Part.names hc.1 (by have := hc.2.1; simpa using this), of_dec h2, ?_⟩
    rcases find_sorted (comp_sorted n part_nil) e (mem_comp h) (dec_true hl) with rfl | h
    · exact ltI_self _
    · exact ltI_asym h
/-! ### turning and renaming -/
theorem renF_ok {n : Nat} {f : Nat → Nat → Int} {ps : List Nat} (hf : FormOf n f) (h : Names n ps) : FormOf n (renF f ps) := ⟨hf.1, hf.2.1, fun i j hi hj => hf.2.2 _ _ (h.ix hi) (h.ix hj)⟩
theorem turn_ren {n b : Nat} {f : Nat → Nat → Int} {ps : List Nat} (h : Names n ps) (hb : b < n) : Fm n (turnF (renF f ps) (ps.getD b 0)) = Fm n (renF (turnF f b) ps) := fm_ext fun i j hi hj => by
  have hq := names_getD h hb
  have e : ∀ {x}, x < n → (x = ps.getD b 0 ↔ ps.idxOf x = b) := fun {x} hx => ⟨fun z => by rw [z]; exact hq.2, fun z => idx_inj h hx hq.1 (by rw [z, hq.2])⟩
  have l : turnF (renF f ps) (ps.getD b 0) i j = if i = ps.getD b 0 ∨ j = ps.getD b 0 then 0 - f (ps.idxOf i) (ps.idxOf j) else f (ps.idxOf i) (ps.idxOf j) + thr (f (ps.idxOf i) (ps.idxOf (ps.getD b 0))) (f (ps.idxOf (ps.getD b 0)) (ps.idxOf j)) := rfl
  have r : renF (turnF f b) ps i j = if ps.idxOf i = b ∨ ps.idxOf j = b then 0 - f (ps.idxOf i) (ps.idxOf j) else f (ps.idxOf i) (ps.idxOf j) + thr (f (ps.idxOf i) b) (f b (ps.idxOf j)) := rfl
  rw [l, r, hq.2]
  by_cases q : i = ps.getD b 0 ∨ j = ps.getD b 0
  · have q2 : ps.idxOf i = b ∨ ps.idxOf j = b := q.elim (fun z => .inl ((e hi).mp z)) fun z => .inr ((e hj).mp z)
    rw [if_pos q, if_pos q2]
  · have q2 : ¬ (ps.idxOf i = b ∨ ps.idxOf j = b) := fun z => q (z.elim (fun z => .inl ((e hi).mpr z)) fun z => .inr ((e hj).mpr z))
    rw [if_neg q, if_neg q2]
theorem thr_zero_r (a : Int) : thr a 0 = 0 := by
  unfold thr
  rw [if_neg (by omega), if_neg (by omega)]
theorem thr_zero_l (a : Int) : thr 0 a = 0 := by
  unfold thr
  rw [if_neg (by omega), if_neg (by omega)]
theorem turn_col {b o i : Nat} {f : Nat → Nat → Int} (hne : b ≠ o) (h1 : f b o = 0) (h2 : f o b = 0) : turnF f b i o = f i o ∧ turnF f b o i = f o i := by
  unfold turnF
  constructor
  · by_cases q : i = b
    · rw [if_pos (.inl q), q, h1]; rfl
    · rw [if_neg (by rintro (z | z); exact q z; exact hne z.symm), h1, thr_zero_r]; omega
  · by_cases q : i = b
    · rw [if_pos (.inr q), q, h2]; rfl
    · rw [if_neg (by rintro (z | z); exact hne z.symm; exact q z), h2, thr_zero_l]; omega
theorem turn_comm {n b o : Nat} {f : Nat → Nat → Int} (h1 : f b o = 0) (h2 : f o b = 0) : Fm n (turnF (turnF f b) o) = Fm n (turnF (turnF f o) b) := by
  by_cases hne : b = o
  · rw [hne]
  · refine fm_ext fun i j _ _ => ?_
    have c1 := fun i => turn_col (i := i) hne h1 h2
    have c2 := fun i => turn_col (i := i) (Ne.symm hne) h2 h1
    have l : turnF (turnF f b) o i j = if i = o ∨ j = o then 0 - turnF f b i j else turnF f b i j + thr (turnF f b i o) (turnF f b o j) := rfl
    have r : turnF (turnF f o) b i j = if i = b ∨ j = b then 0 - turnF f o i j else turnF f o i j + thr (turnF f o i b) (turnF f o b j) := rfl
    rw [l, r, (c1 i).1, (c1 j).2, (c2 i).1, (c2 j).2]
    by_cases p : i = o ∨ j = o
    · rw [if_pos p]
      by_cases q : i = b ∨ j = b
      · rw [if_pos q]
        unfold turnF
        rw [if_pos q, if_pos p]
      · rw [if_neg q]
        unfold turnF
        rw [if_neg q, if_pos p]
        have : thr (f i b) (f b j) = 0 := by
          rcases p with rfl | rfl
          · rw [h2, thr_zero_l]
          · rw [h1, thr_zero_r]
        omega
    · rw [if_neg p]
      by_cases q : i = b ∨ j = b
      · rw [if_pos q]
        unfold turnF
        rw [if_pos q, if_neg p]
        have : thr (f i o) (f o j) = 0 := by
          rcases q with rfl | rfl
          · rw [h1, thr_zero_l]
          · rw [h2, thr_zero_r]
        omega
      · rw [if_neg q]
        unfold turnF
        rw [if_neg q, if_neg p]
        omega
theorem nat9 {a b : Int} (h1 : a.natAbs ≤ 9) (h2 : b.natAbs ≤ 9) : (a * b).natAbs ≤ 81 := by
  rw [Int.natAbs_mul]
  exact Nat.mul_le_mul h1 h2
theorem thr9 {a b : Int} (h1 : a.natAbs ≤ 9) (h2 : b.natAbs ≤ 9) : (thr a b).natAbs ≤ 81 := by
  have := nat9 h1 h2
  unfold thr
  split
  · exact this
  · split
    · omega
    · omega
theorem turn9 {n k : Nat} {f : Nat → Nat → Int} (hf : FormOf n f) (hk : k < n) (h9 : ∀ i j, i < n → j < n → f i j ≤ 9) : FormOf n (turnF f k) := ⟨hf.1, hf.2.1, fun i j hi hj => ⟨turnF_skew hf.skew hk i j hi hj, by
  have hb : ∀ i j, i < n → j < n → (f i j).natAbs ≤ 9 := fun i j hi hj => by
    have h1 := h9 i j hi hj
    have h2 := h9 j i hj hi
    have h3 := (hf.2.2 i j hi hj).1
    omega
  have h1 := hb i j hi hj
  have h2 := thr9 (hb i k hi hk) (hb k j hk hj)
  unfold turnF
  split <;> omega⟩⟩
end AT

/-! ## renamed, alike: their promises at forms -/
namespace AT
open PySem PySem.Spec PyProof.Rows L2 Evl
section
variable {P : Program} {w : World} {K : Frag} {H : Hp} {σ : St} {ta tb t1 t2 : TE} {C1 C2 : Addr} {R : R3} {E : XK}
theorem ev_opR1 {r : R2} {y z : V} (h1 : Er ta σ H R) (h2 : Ev tb σ H y) (hr : ∀ v H1 H2, Ex H H1 → Ex H1 H2 → R H1 H2 v → RV r v y H2 z) : Ev (tOp r ta tb) σ H z := fun H1 e Q q =>
  h1 H1 e _ fun v H2 e2 hv => h2 H2 (e.trans e2) _ fun H3 e3 => hr v H1 H2 e e2 hv H3 e3 Q fun H4 e4 => q H4 ((e2.trans e3).trans e4)
theorem ev_opR2 {r : R2} {x z : V} (h1 : Ev ta σ H x) (h2 : Er tb σ H R) (hr : ∀ v H1 H2, Ex H H1 → Ex H1 H2 → R H1 H2 v → RV r x v H2 z) : Ev (tOp r ta tb) σ H z := fun H1 e Q q =>
  h1 H1 e _ fun H2 e2 => h2 H2 (e.trans e2) _ fun v H3 e3 hv => hr v H2 H3 (e.trans e2) e3 hv H3 (Ex.refl _) Q fun H4 e4 => q H4 ((e2.trans e3).trans e4)
theorem renF_ext {n : Nat} {f g : Nat → Nat → Int} {ps : List Nat} (h : Names n ps) (hf : ∀ i j, i < n → j < n → f i j = g i j) : Fm n (renF f ps) = Fm n (renF g ps) := fm_ext fun i j hi hj => hf _ _ (h.ix hi) (h.ix hj)
theorem spr_renamed {a b : Addr} {n : Nat} {f : Nat → Nat → Int} {ps : List Nat} (hf : FormOf n f) (hps : Names n ps) (hM : LLI K H a (Fm n f)) (hN : LI K H b (nI ps)) : SpR (sp_renamed K C1 C2) [.ref a, .ref b] H (RM (Fm n (renF f ps))) := fun H1 e1 Q q E => by
  refine ⟨a, b, _, _, rfl, hM.mono e1, small_fm (by have := hf.2.1; omega), hN.mono e1, by rw [nI_len, hps.len]; have := hf.2.1; omega, fun hF => absurd (fmI hf) hF, fun n' f' e hf' => ?_⟩
  obtain ⟨rfl, ee⟩ := fm_inj e
  refine ⟨fun z => absurd (isNames_iff.mpr ⟨ps, hps, rfl⟩) z, fun qs hqs eqs H' p e hO => q _ H' e ⟨p, rfl, ?_⟩⟩
  have : ps = qs := List.map_inj_right (f := fun x : Nat => (x : Int)) (fun a b h => by omega) |>.mp eqs
  subst this
  rw [renF_ext hps ee]
  exact hO
theorem er_renamedR2 {n : Nat} {f : Nat → Nat → Int} {ps : List Nat} (hf : FormOf n f) (hps : Names n ps) (h1 : Er t1 σ H (RM (Fm n f))) (h2 : Er t2 σ H (RL (nI ps))) : Er (tCall (sp_renamed K C1 C2) [] E (tCons t1 (tCons t2 tNil))) σ H (RM (Fm n (renF f ps))) :=
  er_callR2 mon_RM h1 h2 fun v1 v2 G1 G2 G3 g1 g2 g3 ⟨c, hc, hOc⟩ ⟨d, hd, hOd⟩ => by
    subst hc; subst hd
    exact spr_renamed hf hps (hOc.lli.mono g3) (sq_of hOd.2)
theorem spr_ren {a b : Addr} {n : Nat} {f : Nat → Nat → Int} {ps : List Nat} (hn : n ≤ 100) (hps : Names n ps) (hM : LLI K H a (Fm n f)) (hN : LI K H b (nI ps)) : SpR (sp__law_renamed K) [.ref a, .ref b] H (RM (Fm n (renF f ps))) := fun H1 e1 Q q E =>
  ⟨a, b, n, f, ps, rfl, hM.mono e1, hN.mono e1, hps, hn, fun H' p e hO => q _ H' e ⟨p, rfl, hO⟩⟩
theorem er_renR {n : Nat} {b : Addr} {f : Nat → Nat → Int} {ps : List Nat} (hn : n ≤ 100) (hps : Names n ps) (h1 : Er t1 σ H (RM (Fm n f))) (h2 : Ev t2 σ H (.ref b)) (hN : LI K H b (nI ps)) : Er (tCall (sp__law_renamed K) [] E (tCons t1 (tCons t2 tNil))) σ H (RM (Fm n (renF f ps))) :=
  er_callR1 mon_RM h1 (ea_cons h2 ea_nil) fun v1 G1 G2 G3 g1 g2 g3 ⟨c, hc, hOc⟩ => by
    subst hc
    exact spr_ren hn hps (hOc.lli.mono g3) (hN.mono ((g1.trans g2).trans g3))
theorem er_ren {n : Nat} {a b : Addr} {f : Nat → Nat → Int} {ps : List Nat} (hn : n ≤ 100) (hps : Names n ps) (h1 : Ev t1 σ H (.ref a)) (hM : LLI K H a (Fm n f)) (h2 : Ev t2 σ H (.ref b)) (hN : LI K H b (nI ps)) : Er (tCall (sp__law_renamed K) [] E (tCons t1 (tCons t2 tNil))) σ H (RM (Fm n (renF f ps))) :=
  er_call mon_RM (ea_cons h1 (ea_cons h2 ea_nil)) (spr_ren hn hps hM hN)
theorem ev_likeRR {M N : List (List Int)} (h1 : Er t1 σ H (RM M)) (h2 : Er t2 σ H (RM N)) (hs : SmallM M) : Ev (tCall (sp__law_like K) [] E (tCons t1 (tCons t2 tNil))) σ H (.bl (decide (M = N))) :=
  ev_callR2 h1 h2 fun v1 v2 G1 G2 G3 g1 g2 g3 ⟨c, hc, hOc⟩ ⟨d, hd, hOd⟩ => by
    subst hc; subst hd
    exact spv_like (hOc.tll.mono g3) hOd.lli hs
end
end AT

/-! ## least names -/
namespace AT
open PySem
def leastM (n : Nat) (f : Nat → Nat → Int) : Mat := minL ((allAt n n).map fun ps => Fm n (renF f ps))
theorem allAt_ne {n : Nat} : allAt n n ≠ [] := fun e => by
  have : List.range n ∈ allAt n n := by rw [allAt_comp]; exact mem_comp (List.Perm.refl _)
  rw [e] at this
  cases this
theorem mem_allAt_iff {n : Nat} {ps : List Nat} : ps ∈ allAt n n ↔ Names n ps := ⟨names_allAt, fun h => by rw [allAt_comp]; exact mem_comp h⟩
theorem least_mem (n : Nat) (f : Nat → Nat → Int) : ∃ ps, Names n ps ∧ leastM n f = Fm n (renF f ps) := by
  have h : leastM n f ∈ (allAt n n).map fun ps => Fm n (renF f ps) := minL_mem (by simpa using allAt_ne)
  obtain ⟨ps, h1, h2⟩ := List.mem_map.mp h
  exact ⟨ps, names_allAt h1, h2.symm⟩
/-- names, then names -/
def thenN (n : Nat) (ps qs : List Nat) : List Nat := (List.range n).map fun t => qs.getD (ps.getD t 0) 0
theorem thenN_getD {n t : Nat} {ps qs : List Nat} (ht : t < n) : (thenN n ps qs).getD t 0 = qs.getD (ps.getD t 0) 0 := by
  unfold thenN
  rw [List.getD_eq_getElem?_getD, List.getElem?_map, List.getElem?_range ht]
  rfl
theorem names_inj {n i j : Nat} {ps : List Nat} (h : Names n ps) (hi : i < n) (hj : j < n) (e : ps.getD i 0 = ps.getD j 0) : i = j := by
  have h1 := (names_getD h hi).2
  rw [e, (names_getD h hj).2] at h1
  exact h1.symm
theorem thenN_names {n : Nat} {ps qs : List Nat} (h : Names n ps) (h2 : Names n qs) : Names n (thenN n ps qs) := by
  refine perm_of_sub ?_ (fun x hx => ?_) (by unfold thenN; simp)
  · unfold thenN
    rw [List.Nodup, List.pairwise_map]
    refine List.Pairwise.imp_of_mem (fun {i j} hi hj hne e => hne ?_) List.nodup_range
    have hi := List.mem_range.mp hi
    have hj := List.mem_range.mp hj
    exact names_inj h hi hj (names_inj h2 (names_getD h hi).1 (names_getD h hj).1 e)
  · obtain ⟨i, hi, rfl⟩ := List.mem_map.mp hx
    exact List.mem_range.mpr (names_getD h2 (names_getD h (List.mem_range.mp hi)).1).1
theorem names_at_ix {n i : Nat} {ps : List Nat} (h : Names n ps) (hi : i < n) : ps.getD (ps.idxOf i) 0 = i := by
  rw [List.getD_eq_getElem?_getD, h.at_ix hi]
  rfl
theorem thenN_ix {n i : Nat} {ps qs : List Nat} (h : Names n ps) (h2 : Names n qs) (hi : i < n) : (thenN n ps qs).idxOf i = ps.idxOf (qs.idxOf i) := by
  have ht := h.ix (h2.ix hi)
  have e : (thenN n ps qs).getD (ps.idxOf (qs.idxOf i)) 0 = i := by rw [thenN_getD ht, names_at_ix h (h2.ix hi), names_at_ix h2 hi]
  have := (names_getD (thenN_names h h2) ht).2
  rw [e] at this
  exact this
theorem ren_ren {n : Nat} {f : Nat → Nat → Int} {ps qs : List Nat} (h : Names n ps) (h2 : Names n qs) : Fm n (renF (renF f ps) qs) = Fm n (renF f (thenN n ps qs)) := fm_ext fun i j hi hj => by
  show f (ps.idxOf (qs.idxOf i)) (ps.idxOf (qs.idxOf j)) = f ((thenN n ps qs).idxOf i) ((thenN n ps qs).idxOf j)
  rw [thenN_ix h h2 hi, thenN_ix h h2 hj]
theorem inv_ix {n i : Nat} {ps : List Nat} (h : Names n ps) (hi : i < n) : (invN n ps).idxOf i = ps.getD i 0 := by
  have hq := names_getD h hi
  have e : (invN n ps).getD (ps.getD i 0) 0 = i := by rw [invN_getD hq.1, hq.2]
  have := (names_getD (invN_names h) hq.1).2
  rw [e] at this
  exact this
theorem least_ren {n : Nat} {f : Nat → Nat → Int} {ps : List Nat} (h : Names n ps) : leastM n (renF f ps) = leastM n f := by
  refine minL_eq fun y => ⟨fun hy => ?_, fun hy => ?_⟩
  · obtain ⟨qs, h1, rfl⟩ := List.mem_map.mp hy
    exact List.mem_map.mpr ⟨thenN n ps qs, mem_allAt_iff.mpr (thenN_names h (names_allAt h1)), (ren_ren h (names_allAt h1)).symm⟩
  · obtain ⟨rs, h1, rfl⟩ := List.mem_map.mp hy
    have hr := names_allAt h1
    have hi := invN_names h
    refine List.mem_map.mpr ⟨thenN n (invN n ps) rs, mem_allAt_iff.mpr (thenN_names hi hr), ?_⟩
    refine fm_ext fun i j hi' hj' => ?_
    show f (ps.idxOf ((thenN n (invN n ps) rs).idxOf i)) (ps.idxOf ((thenN n (invN n ps) rs).idxOf j)) = f (rs.idxOf i) (rs.idxOf j)
    rw [thenN_ix hi hr hi', thenN_ix hi hr hj', inv_ix h (hr.ix hi'), inv_ix h (hr.ix hj'), (names_getD h (hr.ix hi')).2, (names_getD h (hr.ix hj')).2]
theorem leastM_ext {n : Nat} {f g : Nat → Nat → Int} (h : ∀ i j, i < n → j < n → f i j = g i j) : leastM n f = leastM n g := by
  unfold leastM
  refine congrArg minL (List.map_congr_left fun ps hps => ?_)
  exact renF_ext (names_allAt hps) h
end AT

/-! ## least, and the defs that refuse a form of too many boxes -/
namespace AT
open PySem PySem.Spec PyProof.Rows L2 Evl
def sp_all_names : Sp := sp__law_all_names
def sp_least_by (K : Frag) : Sp := fun vs H Q _ => ∃ a n f, vs = [.ref a] ∧ LLI K H a (Fm n f) ∧ n ≤ 5 ∧ ∀ H' p, Ex H H' → OLLI H H' p (leastM n f) → Q (.ref p) H'
def sp_must_be_few (K : Frag) (CF CT : Addr) : Sp := fun vs H Q E => ∃ a M, vs = [.ref a] ∧ LLI K H a M ∧ SmallM M ∧ ∀ H', Ex H H' → (¬ IsForm M → E (.ref CF) none H') ∧ (∀ n f, M = Fm n f → FormOf n f → (4 < n → E (.ref CT) none H') ∧ (n ≤ 4 → Q .non H'))
def sp_least (K : Frag) (CF CT : Addr) : Sp := fun vs H Q E => ∃ a M, vs = [.ref a] ∧ LLI K H a M ∧ SmallM M ∧ (¬ IsForm M → ∀ H', Ex H H' → E (.ref CF) none H') ∧ (∀ n f, M = Fm n f → FormOf n f → (4 < n → ∀ H', Ex H H' → E (.ref CT) none H') ∧ (n ≤ 4 → ∀ H' p, Ex H H' → OLLI H H' p (leastM n f) → Q (.ref p) H'))
/-- a form of more than four boxes is refused -/
def sp_many1 (K : Frag) (CT : Addr) : Sp := fun vs H _ E => ∃ a n f, vs = [.ref a] ∧ LLI K H a (Fm n f) ∧ FormOf n f ∧ 4 < n ∧ ∀ H', Ex H H' → E (.ref CT) none H'
def sp_many2 (K : Frag) (CT : Addr) : Sp := fun vs H _ E => ∃ a b n f M, vs = [.ref a, .ref b] ∧ LLI K H a (Fm n f) ∧ FormOf n f ∧ 4 < n ∧ LLI K H b M ∧ SmallM M ∧ IsForm M ∧ ∀ H', Ex H H' → E (.ref CT) none H'
section
variable {X : Cx}
theorem pssN' {sts : List Stmt} : PSs X sts (fun _ _ _ => False) := ⟨fun _ _ _ _ _ _ h => h.elim⟩
theorem peN' {e : Expr} : PE X e (fun _ _ _ => False) := ⟨fun _ _ _ _ _ _ h => h.elim⟩
theorem callN' {f : Value} : CallR X f (fun _ _ _ => False) := fun _ _ _ _ _ _ _ _ _ h => h.elim
end
section
variable {P : Program} {w : World} {K : Frag} {mg : Str → Option Value} {base : Heap} {k : Nat}
theorem row_ne {n : Nat} {l : List (List Nat)} : ∀ {r : List Int}, r ∈ (l.flatMap (ext n)).map nI → r ≠ [] := fun {r} hr e => by
  obtain ⟨qs, h1, h2⟩ := List.mem_map.mp hr
  obtain ⟨ps, _, h3⟩ := List.mem_flatMap.mp h1
  obtain ⟨x, _, _, rfl⟩ := mem_ext.mp h3
  rw [e] at h2
  have := congrArg List.length h2
  rw [nI_len] at this
  simp at this
theorem ok_all_names (T : Txt K mg) : FnOk P w K mg base CX0 (k + 1) T.f_all_names T.d_all_names ["count"] sp_all_names := by
  refine T.F_all_names.ok sc_all_names (fun vs H Q E h => ?_) (fun cdv A outer s H vs Q E hr h => ?_)
  · obtain ⟨n, rfl, _⟩ := h
    rfl
  · obtain ⟨n, rfl, hn, q⟩ := h
    refine ⟨_, (pss_cons (ps_set (i := 1) sc_all_names.nd rfl (.inl rfl) (pe_lst (pa_cons (pe_lst pa_nil) pa_nil)))
      (pss_cons (ps_for PassesOwn.never rfl (pi_range1 rfl T.b_range (pa_cons (pv 0) pa_nil)) (pg_name (i := 2) sc_all_names.nd rfl (.inl rfl))
        (pss_cons (ps_set (i := 3) sc_all_names.nd rfl (.inl rfl) (pe_lst pa_nil))
      (pss_cons (ps_for PassesOwn.never rfl (pi_listK K (pv 1)) (pg_name (i := 4) sc_all_names.nd rfl (.inr rfl))
        (pss_one (ps_expr (bmK K PySem.F.plainAttrs_list PySem.F.slot_list_extend PySem.F.type_list_extend mt_extend (pv 3) (pa_cons (pe_lc (own := [("name", 5)]) rfl sc_all_names.nd (pi_range1 rfl T.b_range (pa_cons (pv 0) pa_nil)) (blkOk_by (own := [("name", 5)]) (N := N_all_names) (sc := defScope s_all_names) (by decide +kernel)) (fun _ _ _ _ _ => (pg_name (i := 5) sc_all_names.nd rfl (.inl rfl))) (fun _ _ _ _ _ => (pts_one (pt_cmpR (ninK K) (pv 5) (pv 4) rfl))) (fun _ _ _ _ _ => (pe_op op_cat (pv 4) (pe_lst (pa_cons (pv 5) pa_nil))))) pa_nil)))))
      (pss_one (ps_set (i := 1) sc_all_names.nd rfl (.inl rfl) (pv 3))))))
      (pss_one (ps_ret (pv 1))))), ?_⟩
    refine qr_asg (er_lstM (row := []) (er_of_evl (el_lst ea_nil (by decide)))) fun v H1 e1 ⟨p, hv, hO⟩ => ?_
    subst hv
    refine q_forR1 (n := (n : Int)) (ea_cons (ev_var rfl) ea_nil) (by omega) (fun t σ' H' => ∃ p x2 x3 x4 x5, σ' = [some (.int (n : Int)), some (.ref p), x2, x3, x4, x5] ∧ Ex H H' ∧ H p = none ∧ TL H' p ((allAt n t).map nI))
      (fun H2 e2 => ⟨p, _, _, _, _, rfl, e1.trans e2, hO.fresh, hO.tl.mono e2⟩) (fun t σ' H' ht hP => ?_) (fun σ' H' hP => ?_)
    · obtain ⟨p, x2, x3, x4, x5, rfl, eH, hp0, as, hA, hAP⟩ := hP
      have hal : as.length = (allAt n t).length := by rw [hAP.length, List.length_map]
      refine q_asgL (xs := []) (el_lst ea_nil (by simp)) fun q0 H2 hq0 e2 hq02 => ?_
      refine q_forLn (a := p) (xs := as.map V.ref) (ev_var rfl) (sq_of (e2 _ _ hA)) (fun i σ' H'' => ∃ x4 x5, σ' = [some (.int (n : Int)), some (.ref p), some (.int (t : Int)), some (.ref q0), x4, x5] ∧ Ex H' H'' ∧ TL H'' q0 ((((allAt n t).take i).flatMap (ext n)).map nI))
        (fun H3 e3 => ⟨_, _, rfl, e2.trans e3, [], e3 _ _ hq02, .nil⟩) (fun i σ' H'' _ hP => by obtain ⟨x4, x5, rfl, e, _⟩ := hP; exact sq_of (e _ _ hA)) (fun i x σ' H'' hx hP => ?_) (fun σ' H'' hP => ?_)
      · obtain ⟨x4, x5, rfl, e, bs, hB, hBP⟩ := hP
        rw [List.getElem?_map] at hx
        cases hax : as[i]? with
        | none => rw [hax] at hx; cases hx
        | some c =>
          rw [hax] at hx
          cases hx
          obtain ⟨r, hr1, hr2⟩ := paired_getL hAP hax
          rw [List.getElem?_map] at hr1
          cases hps : (allAt n t)[i]? with
          | none => rw [hps] at hr1; cases hr1
          | some ps =>
            rw [hps] at hr1
            cases hr1
            have hpl := (mem_allAt (List.mem_of_getElem? hps)).2
            have e3 : Ex H'' H'' := Ex.refl _
            refine ⟨.ref q0, rfl, .inl ⟨rfl, _, sq_of hB⟩, ?_⟩
            refine er_ext (K := K) (c := c) (n := n) (ps := ps) (j := 5) (ws := [5]) (tn := tVar 4) (ta := tCons (tVar 0) tNil) (σ := [some (.int (n : Int)), some (.ref p), some (.int (t : Int)), some (.ref q0), some (.ref c), x5]) (ea_cons (ev_var rfl) ea_nil) (by omega) (fun _ => rfl) (e _ _ hr2) (by omega) (fun i H => ev_var rfl) (fun i => rfl) H'' e3 _ fun v H4 e4 ⟨p2, hv, hp2, cs, hC, hCP⟩ => ?_
            subst hv
            have hB4 := (e3.trans e4) _ _ hB
            have hbl : bs.length ≤ 46656 * 6 := by
              rw [hBP.length, List.length_map]
              refine Nat.le_trans (flat_len (c := 6) _ fun x _ => Nat.le_trans (ext_len n x) hn) (Nat.mul_le_mul_right 6 ?_)
              rw [List.length_take]
              exact Nat.le_trans (Nat.min_le_right _ _) (allAt_small hn (by omega))
            have hcl : cs.length ≤ 6 := by rw [hCP.length, List.length_map]; exact Nat.le_trans (ext_len n ps) hn
            refine ⟨q0, p2, _, _, rfl, rfl, hB4, hC, Nat.le_trans (show _ ≤ 300000 by simp; omega) (by decide), ?_⟩
            have hne : ∀ {x : Addr} {r : List Int}, r ≠ [] → H4 x = some (.lst (r.map V.int)) → x ≠ q0 := fun {x r} hr hx e => by
              subst e
              rw [hB4] at hx
              injection hx with hx
              injection hx with hx
              cases r with
              | nil => exact hr rfl
              | cons y r =>
                cases bs with
                | nil => cases hx
                | cons b bs => cases hx
            have hall : Paired (fun x r => H4 x = some (.lst (r.map V.int))) (bs ++ cs) ((((allAt n t).take (i + 1)).flatMap (ext n)).map nI) := by
              rw [List.take_add_one, hps, List.flatMap_append, List.map_append]
              refine paired_append (paired_mono hBP fun x r z => (e3.trans e4) _ _ z) ?_
              show Paired _ cs (([ps].flatMap (ext n)).map nI)
              rw [List.flatMap_cons, List.flatMap_nil, List.append_nil]
              exact hCP
            refine ⟨_, _, rfl, Ex.mut ((e.trans e3).trans e4) (fresh_back (Ex.refl _) hq0), bs ++ cs, by rw [upd_same, List.map_append], ?_⟩
            refine paired_of (by rw [hall.length]) fun i x r hx hr => ?_
            obtain ⟨r', h1, h2⟩ := paired_getL hall hx
            rw [hr] at h1
            injection h1 with h1
            subst h1
            rw [upd_ne (hne (row_ne (List.mem_of_getElem? hr)) h2)]
            exact h2
      · obtain ⟨x4, x5, rfl, e, hT⟩ := hP
        refine s_asg (ev_var rfl) fun H3 e3 => ⟨q0, _, _, _, _, rfl, (eH.trans e).trans e3, fresh_back eH hq0, ?_⟩
        rw [List.length_map, hal, List.take_length] at hT
        exact hT.mono e3
    · obtain ⟨p, x2, x3, x4, x5, rfl, eH, hp0, hT⟩ := hP
      exact s_ret (ev_var rfl) fun H2 e2 => q H2 p (eH.trans e2) hp0 (hT.mono e2)
theorem sp_names_er {σ : St} {H : Hp} {n : Nat} {ta : TE} (h : Ev ta σ H (.int (n : Int))) (hn : n ≤ 6) : Er (tCall sp__law_all_names [] E0 (tCons ta tNil)) σ H (fun H1 H2 v => ∃ p, v = .ref p ∧ H1 p = none ∧ TL H2 p ((allAt n n).map nI)) := fun H1 e Q q =>
  h H1 e _ fun H2 e2 => ⟨n, rfl, hn, fun H3 p e3 hp hT => q _ H3 (e2.trans e3) ⟨p, rfl, fresh_back e2 hp, hT⟩⟩
/-- [a form renamed for all names] -/
theorem er_allRen {σ : St} {H : Hp} {te tn : TE} {n j : Nat} {f : Nat → Nat → Int} {ws : List Nat} (hn : Ev tn σ H (.int (n : Int))) (h5 : n ≤ 5) (hw : ∀ x, wipe ((wipe σ ws).set j (some x)) ws = wipe σ ws)
    (he : ∀ (c : Addr) (ps : List Nat) H1, Ex H H1 → Names n ps → LI K H1 c (nI ps) → Er te ((wipe σ ws).set j (some (.ref c))) H1 (RM (Fm n (renF f ps)))) :
    Er (tCB (rMinD K) (tCons (tLc (iList K (tCall sp__law_all_names [] E0 (tCons tn tNil))) (gName j) tYes te ws) tNil)) σ H (RM (leastM n f)) := by
  have h := er_lcN (K := K) (t := tYes) (te := te) (n := (allAt n n).length) (fun _ => true) (fun i => RM (Fm n (renF f ((allAt n n).getD i [])))) (fun i => mon'_RM) (sp_names_er hn (by omega)) (Nat.le_trans (allAt_len (by omega) n (by omega)) (Nat.le_trans (Nat.pow_le_pow_right (by decide) h5) (by decide))) hw (fun G1 G2 v g1 g2 hv => ?_)
  · have h2 := er_minRM (K := K) (idx := (List.range (allAt n n).length).filter fun _ => true) h (by
      rw [filt_all]
      intro e
      have := congrArg List.length e
      rw [List.length_range] at this
      exact allAt_ne (List.length_eq_zero_iff.mp this))
    rw [filt_all] at h2
    have e : (List.range (allAt n n).length).map (fun i => Fm n (renF f ((allAt n n).getD i []))) = (allAt n n).map fun ps => Fm n (renF f ps) := by
      conv => rhs; rw [list_eq_range [] (allAt n n)]
      rw [List.map_map]
      rfl
    rw [e] at h2
    exact h2
  · obtain ⟨p, rfl, hp, as, hA, hAP⟩ := hv
    refine ⟨p, as.map V.ref, rfl, sq_of hA, by rw [List.length_map, hAP.length, List.length_map], fun i x G3 hx g3 => ⟨fun H1 e Q q => q H1 (Ex.refl _), fun _ => ?_⟩⟩
    rw [List.getElem?_map] at hx
    cases hax : as[i]? with
    | none => rw [hax] at hx; cases hx
    | some c =>
      rw [hax] at hx
      cases hx
      obtain ⟨r, hr1, hr2⟩ := paired_getL hAP hax
      rw [List.getElem?_map] at hr1
      cases hps : (allAt n n)[i]? with
      | none => rw [hps] at hr1; cases hr1
      | some ps =>
        rw [hps] at hr1
        cases hr1
        have e : (allAt n n).getD i [] = ps := by rw [List.getD_eq_getElem?_getD, hps]; rfl
        rw [e]
        exact he c ps G3 ((g1.trans g2).trans g3) (names_allAt (List.mem_of_getElem? hps)) (sq_of (g3 _ _ hr2))
theorem ok_least_by (T : Txt K mg) (G_all_names : FnOk P w K mg base CX0 k T.f_all_names T.d_all_names ["count"] sp_all_names) (G_renamed_by : FnOk P w K mg base CX0 k T.f_renamed_by T.d_renamed_by ["form", "names"] (sp_renamed_by K)) : FnOk P w K mg base CX0 (k + 1) T.f_least_by T.d_least_by ["form"] (sp_least_by K) := by
  refine T.F_least_by.ok sc_least_by (fun vs H Q E h => ?_) (fun cdv A outer s H vs Q E hr h => ?_)
  · obtain ⟨a, n, f, rfl, _⟩ := h
    rfl
  · obtain ⟨a, n, f, rfl, hM, h5, q⟩ := h
    refine ⟨_, (pss_one (ps_ret (pe_callB (minDK K rfl hr.units) rfl T.b_min (by decide +kernel) (pa_cons (pe_lc (own := [("names", 1)]) rfl sc_least_by.nd (pi_listK K (pe_call G_all_names hr rfl T.m_all_names T.F_all_names.kp T.b_all_names .nil pass0 (pa_cons (pe_callB (lenK K) rfl T.b_len PySem.boot_len (pa_cons (pv 0) pa_nil)) pa_nil))) (blkOk_by (own := [("names", 1)]) (N := N_least_by) (sc := defScope s_least_by) (by decide +kernel)) (fun _ _ _ _ _ => (pg_name (i := 1) sc_least_by.nd rfl (.inl rfl))) (fun _ _ _ _ _ => pts_nil) (fun _ _ _ _ _ => (pe_call G_renamed_by hr rfl T.m_renamed_by T.F_renamed_by.kp T.b_renamed_by .nil pass0 (pa_cons (pv 0) (pa_cons (pv 1) pa_nil))))) pa_nil)))), ?_⟩
    refine sr_ret (er_allRen (K := K) (n := n) (f := f) (ev_lenFm (ev_var rfl) hM) h5 (fun _ => rfl) fun c ps H1 e1 hps hc => ?_) fun v H1 e1 ⟨p, hv, hO⟩ => by
      subst hv
      exact q H1 p e1 hO
    exact er_call mon_RM (ea_cons (ev_var (v := .ref a) rfl) (ea_cons (ev_var (v := .ref c) rfl) ea_nil)) fun G1 g1 Q' q' E' => ⟨a, c, n, f, ps, rfl, hM.mono (e1.trans g1), hc.mono g1, hps, by omega, fun H' p' e' hO' => q' _ H' e' ⟨p', rfl, hO'⟩⟩
theorem ok_must_be_few (T : Txt K mg) (G_must_form : FnOk P w K mg base (L2.CX P w) k T.f_must_form T.d_must_form ["form"] (sp_must_form K T.c_NoForm)) : FnOk P w K mg base (L2.CX P w) (k + 1) T.f_must_be_few T.d_must_be_few ["form"] (sp_must_be_few K T.c_NoForm T.c_TooMany) := by
  refine T.F_must_be_few.okX sc_must_be_few (fun vs H Q E h => ?_) (fun cdv A outer s H vs Q E hr h => ?_)
  · obtain ⟨a, M, rfl, _⟩ := h
    rfl
  · obtain ⟨a, M, rfl, hM, hs, q⟩ := h
    refine ⟨_, (pss_cons (ps_expr (pe_call G_must_form hr rfl T.m_must_form T.F_must_form.kp T.b_must_form .nil (passes_call (takes_of rfl rfl rfl rfl) (fun _ _ _ _ h => h)) (pa_cons (pv 0) pa_nil)))
      (pss_one (ps_if (pt_cmpR op_gt (pe_callB (lenK K) rfl T.b_len PySem.boot_len (pa_cons (pv 0) pa_nil)) (pe_glob (v := .int 4) rfl T.m_MOST_NAMED ⟨_, rfl⟩) (nomark _))
        (pss_one (ps_raise rfl (takes_of rfl rfl rfl rfl) (pmk_own PySem.F.excBase_ValueError T.x_TooMany.xn T.x_TooMany.g T.x_TooMany.kp (raises_own T.x_TooMany.bs T.x_TooMany.ty) rfl)))
        pss_nil))), ?_⟩
    refine ⟨.ref a, rfl, a, M, rfl, hM, hs, fun H1 e1 => ⟨fun hF => ?_, fun hF => (q H1 e1).1 hF⟩⟩
    obtain ⟨n, f, rfl, hf⟩ := hF
    have hM1 := hM.mono e1
    dsimp only
    refine s_when (et_test (ev_op (ev_lenFm (ev_var rfl) hM1) ev_c rv_I0)) (fun hb H2 e2 => ?_) (fun hb H2 e2 => ?_)
    · rw [decide_eq_true_eq] at hb
      exact ((q H2 (e1.trans e2)).2 n f rfl hf).1 (by omega)
    · rw [decide_eq_false_iff_not] at hb
      exact ((q H2 (e1.trans e2)).2 n f rfl hf).2 (by omega)
theorem ok_least (T : Txt K mg) (G_must_be_few : FnOk P w K mg base (L2.CX P w) k T.f_must_be_few T.d_must_be_few ["form"] (sp_must_be_few K T.c_NoForm T.c_TooMany)) (G_least_by : FnOk P w K mg base CX0 k T.f_least_by T.d_least_by ["form"] (sp_least_by K)) : FnOk P w K mg base (L2.CX P w) (k + 1) T.f_least T.d_least ["form"] (sp_least K T.c_NoForm T.c_TooMany) := by
  refine T.F_least.okX sc_least (fun vs H Q E h => ?_) (fun cdv A outer s H vs Q E hr h => ?_)
  · obtain ⟨a, M, rfl, _⟩ := h
    rfl
  · obtain ⟨a, M, rfl, hM, hs, q1, q2⟩ := h
    refine ⟨_, (pss_cons (ps_expr (pe_call G_must_be_few hr rfl T.m_must_be_few T.F_must_be_few.kp T.b_must_be_few .nil (passes_call (takes_of rfl rfl rfl rfl) (fun _ _ _ _ h => h)) (pa_cons (pv 0) pa_nil)))
      (pss_one (ps_ret (pe_call G_least_by hr rfl T.m_least_by T.F_least_by.kp T.b_least_by .nil pass0 (pa_cons (pv 0) pa_nil))))), ?_⟩
    refine ⟨.ref a, rfl, a, M, rfl, hM, hs, fun H1 e1 => ⟨fun hF => q1 hF H1 e1, fun n f e hf => ⟨fun h4 => (q2 n f e hf).1 h4 H1 e1, fun h4 => ?_⟩⟩⟩
    subst e
    exact ⟨.ref a, rfl, a, n, f, rfl, hM.mono e1, by omega, fun H2 p e2 hO => (q2 n f rfl hf).2 h4 H2 p (e1.trans e2) (hO.back e1)⟩
end
end AT

/-! ## the sum over all orders -/
namespace AT
open PySem
/-! ### sums and products over lists -/
def sumL : List Int → Int
  | [] => 0
  | x :: xs => x + sumL xs
def prodL : List Int → Int
  | [] => 1
  | x :: xs => x * prodL xs
theorem sumL_perm {l l' : List Int} (h : l.Perm l') : sumL l = sumL l' := by
  induction h with
  | nil => rfl
  | cons x _ ih => simp only [sumL, ih]
  | swap x y l => simp only [sumL]; omega
  | trans _ _ h1 h2 => rw [h1, h2]
theorem prodL_perm {l l' : List Int} (h : l.Perm l') : prodL l = prodL l' := by
  induction h with
  | nil => rfl
  | cons x _ ih => simp only [prodL, ih]
  | swap x y l => simp only [prodL]; rw [← Int.mul_assoc, ← Int.mul_assoc, Int.mul_comm y x]
  | trans _ _ h1 h2 => rw [h1, h2]
theorem sumL_add {α : Type} (f g : α → Int) (a b : Int) : ∀ l : List α, sumL (l.map fun x => a * f x + b * g x) = a * sumL (l.map f) + b * sumL (l.map g)
  | [] => by simp [sumL]
  | x :: l => by
    simp only [List.map_cons, sumL, sumL_add f g a b l, Int.mul_add]
    omega
theorem sumL_zero {α : Type} {f : α → Int} : ∀ {l : List α}, (∀ x ∈ l, f x = 0) → sumL (l.map f) = 0
  | [], _ => rfl
  | x :: l, h => by
    simp only [List.map_cons, sumL, h x List.mem_cons_self, sumL_zero fun y hy => h y (List.mem_cons_of_mem _ hy)]
    rfl
theorem sumL_congr {α : Type} {f g : α → Int} {l : List α} (h : ∀ x ∈ l, f x = g x) : sumL (l.map f) = sumL (l.map g) := by rw [List.map_congr_left h]
theorem sumL_mul {α : Type} (f : α → Int) (a : Int) (l : List α) : sumL (l.map fun x => a * f x) = a * sumL (l.map f) := by
  induction l with
  | nil => simp [sumL]
  | cons x l ih => simp only [List.map_cons, sumL, ih, Int.mul_add]
theorem sumL_filter {α : Type} {f : α → Int} {p : α → Bool} : ∀ {l : List α}, (∀ x ∈ l, p x = false → f x = 0) → sumL (l.map f) = sumL ((l.filter p).map f)
  | [], _ => rfl
  | x :: l, h => by
    have ih := sumL_filter (f := f) (p := p) (l := l) fun y hy => h y (List.mem_cons_of_mem _ hy)
    rw [List.filter_cons]
    cases hp : p x with
    | true => simp only [if_true, List.map_cons, sumL, ih]
    | false =>
      simp only [List.map_cons, sumL, ih, h x List.mem_cons_self hp]
      simp
theorem prodL_zero {l : List Int} (h : 0 ∈ l) : prodL l = 0 := by
  induction l with
  | nil => cases h
  | cons x l ih =>
    rcases List.mem_cons.mp h with e | h
    · show x * prodL l = 0
      rw [← e]
      exact Int.zero_mul _
    · show x * prodL l = 0
      rw [ih h]
      exact Int.mul_zero _
def prN (n : Nat) (h : Nat → Int) : Int := prodL ((List.range n).map h)
theorem prN_congr {n : Nat} {h g : Nat → Int} (e : ∀ i, i < n → h i = g i) : prN n h = prN n g := congrArg prodL (List.map_congr_left fun i hi => e i (List.mem_range.mp hi))
theorem prN_perm {n : Nat} {h : Nat → Int} {l : List Nat} (p : l.Perm (List.range n)) : prodL (l.map h) = prN n h := prodL_perm (p.map h)
theorem prN_zero {n i : Nat} {h : Nat → Int} (hi : i < n) (e : h i = 0) : prN n h = 0 := prodL_zero (List.mem_map.mpr ⟨i, List.mem_range.mpr hi, e⟩)
theorem prN_succ (n : Nat) (h : Nat → Int) : prN (n + 1) h = h 0 * prN n fun i => h (i + 1) := by
  unfold prN
  rw [List.range_succ_eq_map, List.map_cons, List.map_map]
  rfl
theorem prodL_one {x : Int} {h : Nat → Int} {i : Nat} : ∀ {l : List Nat}, l.Nodup → i ∈ l → prodL (l.map fun k => if k = i then x else h k) = x * prodL (l.map fun k => if k = i then 1 else h k)
  | [], _, hm => by cases hm
  | a :: l, hn, hm => by
    rw [List.nodup_cons] at hn
    by_cases e : a = i
    · subst e
      have h1 : (l.map fun k => if k = a then x else h k) = l.map fun k => if k = a then 1 else h k := List.map_congr_left fun k hk => by
        have : k ≠ a := fun z => hn.1 (z ▸ hk)
        rw [if_neg this, if_neg this]
      simp only [List.map_cons, prodL, if_true, h1, Int.one_mul]
    · have hm' : i ∈ l := (List.mem_cons.mp hm).resolve_left fun z => e z.symm
      show (if a = i then x else h a) * prodL (l.map fun k => if k = i then x else h k) = x * ((if a = i then 1 else h a) * prodL (l.map fun k => if k = i then 1 else h k))
      rw [if_neg e, if_neg e, prodL_one hn.2 hm', ← Int.mul_assoc, ← Int.mul_assoc, Int.mul_comm (h a) x]
/-! ### the sign, the sum -/
def invs (ps : List Nat) : Nat := ((List.range ps.length).map fun k => ((List.range k).filter fun j => decide (ps.getD k 0 < ps.getD j 0)).length).sum
def sgn (ps : List Nat) : Int := 1 - ((invs ps % 2 : Nat) : Int) * 2
def term (n : Nat) (A : Nat → Nat → Int) (ps : List Nat) : Int := sgn ps * prN n fun i => A i (ps.getD i 0)
def detL (n : Nat) (A : Nat → Nat → Int) : Int := sumL ((allAt n n).map (term n A))
/-! ### two neighbours changed about -/
def adj : Nat → List Nat → List Nat
  | 0, a :: b :: r => b :: a :: r
  | i + 1, x :: l => x :: adj i l
  | _, l => l
theorem adj_perm : ∀ (i : Nat) (l : List Nat), (adj i l).Perm l
  | 0, [] => .refl _
  | 0, [_] => .refl _
  | 0, a :: b :: r => .swap _ _ _
  | _ + 1, [] => .refl _
  | i + 1, x :: l => (adj_perm i l).cons x
theorem adj_adj : ∀ (i : Nat) (l : List Nat), adj i (adj i l) = l
  | 0, [] => rfl
  | 0, [_] => rfl
  | 0, a :: b :: r => rfl
  | _ + 1, [] => rfl
  | i + 1, x :: l => congrArg (x :: ·) (adj_adj i l)
def swp (i k : Nat) : Nat := if k = i then i + 1 else if k = i + 1 then i else k
theorem swp_succ (i k : Nat) : swp (i + 1) (k + 1) = swp i k + 1 := by
  unfold swp
  by_cases h1 : k = i
  · rw [if_pos h1, if_pos (by omega)]
  · by_cases h2 : k = i + 1
    · rw [if_neg h1, if_neg (by omega), if_pos h2, if_pos (by omega)]
    · rw [if_neg h1, if_neg (by omega), if_neg h2, if_neg (by omega)]
theorem adj_getD : ∀ (i : Nat) (l : List Nat) (k : Nat), i + 1 < l.length → (adj i l).getD k 0 = l.getD (swp i k) 0
  | 0, [], _, h => by simp at h
  | 0, [_], _, h => by simp at h
  | 0, a :: b :: r, 0, _ => rfl
  | 0, a :: b :: r, 1, _ => rfl
  | 0, a :: b :: r, k + 2, _ => by
    have : swp 0 (k + 2) = k + 2 := by unfold swp; rw [if_neg (by omega), if_neg (by omega)]
    rw [this]; rfl
  | i + 1, [], _, h => by simp at h
  | i + 1, x :: l, 0, _ => by
    have : swp (i + 1) 0 = 0 := by unfold swp; rw [if_neg (by omega), if_neg (by omega)]
    rw [this]; rfl
  | i + 1, x :: l, k + 1, h => by
    rw [swp_succ]
    have := adj_getD i l k (by simpa using h)
    simpa [adj] using this
def invF : List Nat → Nat
  | [] => 0
  | x :: xs => (xs.filter fun y => decide (y < x)).length + invF xs
theorem invF_adj : ∀ (i : Nat) (l : List Nat), i + 1 < l.length → l.Nodup → invF (adj i l) = invF l + 1 ∨ invF l = invF (adj i l) + 1
  | 0, [], h, _ => by simp at h
  | 0, [_], h, _ => by simp at h
  | 0, a :: b :: r, _, hn => by
    have hab : a ≠ b := by
      rw [List.nodup_cons] at hn
      exact fun e => hn.1 (e ▸ List.mem_cons_self)
    simp only [adj, invF, List.filter_cons]
    by_cases h : a < b
    · have h2 : ¬ b < a := by omega
      simp only [h, h2, decide_true, decide_false, if_true, List.length_cons]
      simp
      omega
    · have h2 : b < a := by omega
      simp only [h, h2, decide_true, decide_false, if_true, List.length_cons]
      simp
      omega
  | i + 1, [], h, _ => by simp at h
  | i + 1, x :: l, h, hn => by
    rw [List.nodup_cons] at hn
    have ih := invF_adj i l (by simpa using h) hn.2
    have hc := ((adj_perm i l).filter fun y => decide (y < x)).length_eq
    simp only [adj, invF, hc]
    omega
theorem filt_getD (p : Nat → Bool) (l : List Nat) : ((List.range l.length).filter fun k => p (l.getD k 0)).length = (l.filter p).length := by
  conv => rhs; rw [list_eq_range 0 l]
  rw [List.filter_map, List.length_map]
  rfl
theorem sum_ite (p : Nat → Bool) (f : Nat → Nat) : ∀ l : List Nat, (l.map fun k => (if p k = true then 1 else 0) + f k).sum = (l.filter p).length + (l.map f).sum
  | [] => rfl
  | x :: l => by
    have ih := sum_ite p f l
    simp only [List.map_cons, List.sum_cons, List.filter_cons]
    cases h : p x with
    | true => simp only [if_true, List.length_cons, ih]; omega
    | false => simp only [ih]; simp; omega
theorem invs_eq : ∀ l : List Nat, invs l = invF l
  | [] => rfl
  | x :: xs => by
    have ih := invs_eq xs
    have h1 : ∀ k, ((List.range (k + 1)).filter fun j => decide ((x :: xs).getD (k + 1) 0 < (x :: xs).getD j 0)).length = (if decide (xs.getD k 0 < x) = true then 1 else 0) + ((List.range k).filter fun j => decide (xs.getD k 0 < xs.getD j 0)).length := fun k => by
      rw [List.range_succ_eq_map, List.filter_cons, List.filter_map]
      by_cases h : xs.getD k 0 < x
      · simp only [List.getD_cons_succ, List.getD_cons_zero, h, decide_true, if_true, List.length_cons, List.length_map]
        rw [Nat.add_comm]
        rfl
      · simp only [List.getD_cons_succ, List.getD_cons_zero, h, decide_false, List.length_map]
        simp
        rfl
    have h2 : invs (x :: xs) = ((List.range xs.length).map fun k => (if decide (xs.getD k 0 < x) = true then 1 else 0) + ((List.range k).filter fun j => decide (xs.getD k 0 < xs.getD j 0)).length).sum := by
      unfold invs
      rw [List.length_cons, List.range_succ_eq_map, List.map_cons, List.sum_cons, List.map_map]
      have : (fun k => ((List.range k).filter fun j => decide ((x :: xs).getD k 0 < (x :: xs).getD j 0)).length) ∘ Nat.succ = fun k => (if decide (xs.getD k 0 < x) = true then 1 else 0) + ((List.range k).filter fun j => decide (xs.getD k 0 < xs.getD j 0)).length := funext fun k => h1 k
      rw [this]
      simp
    rw [h2, sum_ite (fun k => decide (xs.getD k 0 < x)), filt_getD fun y => decide (y < x)]
    show _ + invs xs = _
    rw [ih]
    rfl
theorem sgn_adj {i : Nat} {l : List Nat} (h : i + 1 < l.length) (hn : l.Nodup) : sgn (adj i l) = 0 - sgn l := by
  unfold sgn
  rw [invs_eq, invs_eq]
  rcases invF_adj i l h hn with e | e <;> omega
/-! ### rules -/
theorem allAt_nd (n : Nat) : (allAt n n).Nodup := by
  rw [allAt_comp]
  refine (comp_sorted n part_nil).imp fun {a b} h e => ?_
  rw [e, ltI_self] at h
  cases h
theorem sum_bij {n : Nat} {φ : List Nat → List Nat} (g : List Nat → Int) (h : ∀ ps, Names n ps → Names n (φ ps)) (hi : ∀ ps qs, Names n ps → Names n qs → φ ps = φ qs → ps = qs) : sumL ((allAt n n).map fun ps => g (φ ps)) = sumL ((allAt n n).map g) := by
  have hp : ((allAt n n).map φ).Perm (allAt n n) := by
    refine perm_of_sub ?_ (fun x hx => ?_) (by rw [List.length_map]; exact Nat.le_refl _)
    · rw [List.Nodup, List.pairwise_map]
      exact List.Pairwise.imp_of_mem (fun {a b} ha hb hne e => hne (hi a b (names_allAt ha) (names_allAt hb) e)) (allAt_nd n)
    · obtain ⟨ps, h1, rfl⟩ := List.mem_map.mp hx
      exact mem_allAt_iff.mpr (h ps (names_allAt h1))
  have := sumL_perm (hp.map g)
  rw [List.map_map] at this
  exact this
theorem detL_congr {n : Nat} {A B : Nat → Nat → Int} (h : ∀ i j, i < n → j < n → A i j = B i j) : detL n A = detL n B := by
  refine sumL_congr fun ps hps => ?_
  unfold term
  exact congrArg _ (prN_congr fun i hi => h i _ hi (names_getD (names_allAt hps) hi).1)
theorem swp_names {n i : Nat} (h : i + 1 < n) : ((List.range n).map (swp i)).Perm (List.range n) := by
  refine perm_of_sub ?_ (fun x hx => ?_) (by simp)
  · rw [List.Nodup, List.pairwise_map]
    refine List.Pairwise.imp_of_mem (fun {a b} _ _ hne e => hne ?_) List.nodup_range
    have h2 : ∀ k, swp i (swp i k) = k := fun k => by
      unfold swp
      by_cases h1 : k = i
      · rw [if_pos h1, if_neg (by omega), if_pos rfl, h1]
      · by_cases h2 : k = i + 1
        · rw [if_neg h1, if_pos h2, if_pos rfl, h2]
        · rw [if_neg h1, if_neg h2, if_neg h1, if_neg h2]
    rw [← h2 a, e, h2 b]
  · obtain ⟨k, hk, rfl⟩ := List.mem_map.mp hx
    have hk := List.mem_range.mp hk
    rw [List.mem_range]
    unfold swp
    split
    · omega
    · split <;> omega
/-- two neighbouring rows changed about -/
theorem detL_adj {n i : Nat} {A : Nat → Nat → Int} (h : i + 1 < n) : detL n (fun k j => A (swp i k) j) = 0 - detL n A := by
  have e : detL n (fun k j => A (swp i k) j) = sumL ((allAt n n).map fun ps => (-1) * term n A (adj i ps)) := by
    refine sumL_congr fun ps hps => ?_
    have hps := names_allAt hps
    have hlen := hps.len
    unfold term
    rw [sgn_adj (by omega) hps.nd]
    have e1 : prN n (fun k => A k ((adj i ps).getD k 0)) = prN n fun k => A (swp i k) (ps.getD k 0) := by
      rw [← prN_perm (swp_names h), List.map_map]
      unfold prN
      refine congrArg prodL (List.map_congr_left fun k hk => ?_)
      show A (swp i k) ((adj i ps).getD (swp i k) 0) = _
      rw [adj_getD i ps _ (by omega)]
      have : swp i (swp i k) = k := by
        unfold swp
        by_cases h1 : k = i
        · rw [if_pos h1, if_neg (by omega), if_pos rfl, h1]
        · by_cases h2 : k = i + 1
          · rw [if_neg h1, if_pos h2, if_pos rfl, h2]
          · rw [if_neg h1, if_neg h2, if_neg h1, if_neg h2]
      rw [this]
    rw [e1]
    generalize prN n (fun k => A (swp i k) (ps.getD k 0)) = x
    generalize sgn ps = y
    rw [Int.sub_mul]
    omega
  rw [e, sumL_mul]
  have := sum_bij (n := n) (φ := adj i) (term n A) (fun ps hps => (adj_perm i ps).trans hps) (fun ps qs _ _ e => by rw [← adj_adj i ps, e, adj_adj])
  rw [this]
  unfold detL
  omega
def setR (A : Nat → Nat → Int) (i : Nat) (r : Nat → Int) : Nat → Nat → Int := fun k j => if k = i then r j else A k j
theorem term_setR {n i : Nat} {A : Nat → Nat → Int} {r : Nat → Int} {ps : List Nat} (hi : i < n) : term n (setR A i r) ps = r (ps.getD i 0) * term n (setR A i fun _ => 1) ps := by
  unfold term
  have h1 : prN n (fun k => setR A i r k (ps.getD k 0)) = r (ps.getD i 0) * prN n fun k => setR A i (fun _ => 1) k (ps.getD k 0) := by
    have := prodL_one (x := r (ps.getD i 0)) (h := fun k => A k (ps.getD k 0)) (i := i) (l := List.range n) List.nodup_range (List.mem_range.mpr hi)
    unfold prN
    rw [← (show _ = _ from congrArg (r (ps.getD i 0) * ·) (congrArg prodL (List.map_congr_left fun k _ => by unfold setR; rfl))), ← this]
    refine congrArg prodL (List.map_congr_left fun k _ => ?_)
    unfold setR
    by_cases e : k = i
    · rw [if_pos e, if_pos e, e]
    · rw [if_neg e, if_neg e]
  rw [h1, ← Int.mul_assoc, ← Int.mul_assoc, Int.mul_comm (sgn ps)]
/-- a row that is a sum -/
theorem detL_lin {n i : Nat} {A : Nat → Nat → Int} {r s : Nat → Int} {a b : Int} (hi : i < n) : detL n (setR A i fun j => a * r j + b * s j) = a * detL n (setR A i r) + b * detL n (setR A i s) := by
  unfold detL
  rw [← sumL_add]
  refine sumL_congr fun ps _ => ?_
  rw [term_setR hi, term_setR (r := r) hi, term_setR (r := s) hi, Int.add_mul, Int.mul_assoc, Int.mul_assoc]
theorem setR_self (A : Nat → Nat → Int) (i : Nat) : setR A i (A i) = A := funext fun k => funext fun j => by
  unfold setR
  by_cases e : k = i
  · rw [if_pos e, e]
  · rw [if_neg e]
/-- two equal rows -/
theorem detL_same {n : Nat} : ∀ (d : Nat) {A : Nat → Nat → Int} {p : Nat}, p + d + 1 < n → (∀ j, j < n → A p j = A (p + d + 1) j) → detL n A = 0
  | 0, A, p, h, e => by
    have h1 := detL_adj (A := A) (i := p) h
    have h2 : detL n (fun k j => A (swp p k) j) = detL n A := detL_congr fun k j _ hj => by
      unfold swp
      by_cases h1 : k = p
      · rw [if_pos h1, h1]; exact (e j hj).symm
      · by_cases h2 : k = p + 1
        · rw [if_neg h1, if_pos h2, h2]; exact e j hj
        · rw [if_neg h1, if_neg h2]
    omega
  | d + 1, A, p, h, e => by
    have h1 := detL_adj (A := A) (i := p + d + 1) (by omega)
    have h2 := detL_same (n := n) d (A := fun k j => A (swp (p + d + 1) k) j) (p := p) (by omega) fun j hj => by
      have e1 : swp (p + d + 1) p = p := by unfold swp; rw [if_neg (by omega), if_neg (by omega)]
      have e2 : swp (p + d + 1) (p + d + 1) = p + d + 1 + 1 := by unfold swp; rw [if_pos rfl]
      show A (swp (p + d + 1) p) j = A (swp (p + d + 1) (p + d + 1)) j
      rw [e1, e2]
      exact e j hj
    omega
theorem detL_eq {n p q : Nat} {A : Nat → Nat → Int} (hp : p < n) (hq : q < n) (hne : p ≠ q) (e : ∀ j, j < n → A p j = A q j) : detL n A = 0 := by
  rcases Nat.lt_or_gt_of_ne hne with h | h
  · obtain ⟨d, rfl⟩ : ∃ d, q = p + d + 1 := ⟨q - p - 1, by omega⟩
    exact detL_same d hq e
  · obtain ⟨d, rfl⟩ : ∃ d, p = q + d + 1 := ⟨p - q - 1, by omega⟩
    exact detL_same d hp fun j hj => (e j hj).symm
/-- a row put behind a times itself and b times another one -/
theorem detL_op {n p q : Nat} {A : Nat → Nat → Int} {a b : Int} (hp : p < n) (hq : q < n) (hne : p ≠ q) : detL n (setR A p fun j => a * A p j + b * A q j) = a * detL n A := by
  rw [detL_lin hp, setR_self]
  have h : detL n (setR A p (A q)) = 0 := detL_eq hp hq hne fun j _ => by
    unfold setR
    rw [if_pos rfl, if_neg (Ne.symm hne)]
  rw [h]
  omega
/-- two rows changed about -/
theorem detL_swap {n p q : Nat} {A : Nat → Nat → Int} (hp : p < n) (hq : q < n) (hne : p ≠ q) : detL n (setR (setR A p (A q)) q (A p)) = 0 - detL n A := by
  have h0 : ∀ B : Nat → Nat → Int, (∀ j, B p j = B q j) → detL n B = 0 := fun B h => detL_eq hp hq hne fun j _ => h j
  have mk : ∀ r s, detL n (setR (setR A p r) q s) = detL n (setR (setR A q s) p r) := fun r s => detL_congr fun i j _ _ => by
    unfold setR
    by_cases e1 : i = q
    · rw [if_pos e1, if_neg (by omega), if_pos e1]
    · rw [if_neg e1, if_neg e1]
  -- (p + q, p + q)
  have h1 : detL n (setR (setR A p fun j => 1 * A p j + 1 * A q j) q fun j => 1 * A p j + 1 * A q j) = 0 := h0 _ fun j => by
    unfold setR
    rw [if_neg hne, if_pos rfl, if_pos rfl]
  rw [detL_lin hq, mk, mk, detL_lin hp, detL_lin hp, ← mk, ← mk, ← mk, ← mk] at h1
  have h2 : detL n (setR (setR A p (A p)) q (A p)) = 0 := h0 _ fun j => by
    unfold setR
    rw [if_neg hne, if_pos rfl, if_pos rfl]
  have h3 : detL n (setR (setR A p (A q)) q (A q)) = 0 := h0 _ fun j => by
    unfold setR
    rw [if_neg hne, if_pos rfl, if_pos rfl]
  have h4 : detL n (setR (setR A p (A p)) q (A q)) = detL n A := by rw [setR_self, setR_self]
  rw [h2, h3, h4] at h1
  omega
/-! ### a first column of noughts -/
theorem detL_col0 {n : Nat} {A : Nat → Nat → Int} (h0 : 0 < n) (h : ∀ i, i < n → A i 0 = 0) : detL n A = 0 := sumL_zero fun ps hps => by
  have hps := names_allAt hps
  unfold term
  have hix := hps.ix h0
  rw [prN_zero (i := ps.idxOf 0) hix (by rw [names_at_ix hps h0]; exact h _ hix)]
  exact Int.mul_zero _
def cons0 (qs : List Nat) : List Nat := 0 :: qs.map (· + 1)
theorem invF_map (qs : List Nat) : invF (qs.map (· + 1)) = invF qs := by
  induction qs with
  | nil => rfl
  | cons x qs ih =>
    simp only [List.map_cons, invF, ih, List.filter_map, List.length_map]
    congr 2
    refine List.filter_congr fun y _ => ?_
    show decide (y + 1 < x + 1) = decide (y < x)
    exact decide_eq_decide.mpr (by omega)
theorem sgn_cons0 (qs : List Nat) : sgn (cons0 qs) = sgn qs := by
  unfold sgn cons0
  rw [invs_eq, invs_eq]
  have : invF (0 :: qs.map (· + 1)) = invF qs := by
    show (List.filter _ _).length + _ = _
    rw [invF_map]
    have : (qs.map (· + 1)).filter (fun y => decide (y < 0)) = [] := List.filter_eq_nil_iff.mpr fun y _ => by simp
    rw [this]
    simp
  rw [this]
theorem cons0_names {n : Nat} {qs : List Nat} : Names (n + 1) (cons0 qs) ↔ Names n qs := by
  unfold Names cons0
  rw [List.range_succ_eq_map, List.perm_cons]
  refine ⟨fun h => ?_, fun h => h.map _⟩
  have := h.map fun x => x - 1
  rw [List.map_map, List.map_map] at this
  have e : ∀ l : List Nat, l.map ((fun x => x - 1) ∘ fun x => x + 1) = l := fun l => by
    conv => rhs; rw [← List.map_id l]
    exact List.map_congr_left fun y _ => by show y + 1 - 1 = y; omega
  have e2 : ∀ l : List Nat, l.map ((fun x => x - 1) ∘ Nat.succ) = l := fun l => e l
  rw [e, e2] at this
  exact this
theorem detL_block {n : Nat} {A : Nat → Nat → Int} (h : ∀ i, i < n → A (i + 1) 0 = 0) : detL (n + 1) A = A 0 0 * detL n fun i j => A (i + 1) (j + 1) := by
  unfold detL
  rw [sumL_filter (p := fun ps => decide (ps.getD 0 0 = 0)) fun ps hps hp => ?_]
  · have hp : ((allAt (n + 1) (n + 1)).filter fun ps => decide (ps.getD 0 0 = 0)).Perm ((allAt n n).map cons0) := by
      have hnd : ((allAt n n).map cons0).Nodup := by
        rw [List.Nodup, List.pairwise_map]
        refine (allAt_nd n).imp fun {a b} hne e => hne ?_
        unfold cons0 at e
        injection e with _ e
        exact (List.map_inj_right fun a b e => by omega).mp e
      refine (List.perm_ext_iff_of_nodup ((allAt_nd (n + 1)).filter _) hnd).mpr fun ps => ?_
      rw [List.mem_filter, mem_allAt_iff, List.mem_map, decide_eq_true_eq]
      constructor
      · rintro ⟨h1, h2⟩
        cases ps with
        | nil => have := h1.len; simp at this
        | cons x ps =>
          have hx : x = 0 := h2
          subst hx
          have hnd := h1.nd
          rw [List.nodup_cons] at hnd
          have e : ps = (ps.map (· - 1)).map (· + 1) := by
            rw [List.map_map]
            conv => lhs; rw [← List.map_id ps]
            refine List.map_congr_left fun y hy => ?_
            have : y ≠ 0 := fun z => hnd.1 (z ▸ hy)
            show y = y - 1 + 1
            omega
          refine ⟨ps.map (· - 1), mem_allAt_iff.mpr (cons0_names.mp ?_), ?_⟩
          · unfold cons0
            rw [← e]
            exact h1
          · unfold cons0
            rw [← e]
      · rintro ⟨qs, h1, rfl⟩
        exact ⟨cons0_names.mpr (names_allAt h1), rfl⟩
    rw [sumL_perm (hp.map (term (n + 1) A)), List.map_map, ← sumL_mul]
    refine sumL_congr fun qs hqs => ?_
    show term (n + 1) A (cons0 qs) = _
    unfold term
    rw [sgn_cons0, prN_succ]
    have e : prN n (fun i => A (i + 1) ((cons0 qs).getD (i + 1) 0)) = prN n fun i => A (i + 1) (qs.getD i 0 + 1) := prN_congr fun i hi => by
      have : (cons0 qs).getD (i + 1) 0 = qs.getD i 0 + 1 := by
        unfold cons0
        have hl := (names_allAt hqs).len
        rw [List.getD_cons_succ, List.getD_eq_getElem?_getD, List.getD_eq_getElem?_getD, List.getElem?_map, List.getElem?_eq_getElem (by omega)]
        rfl
      rw [this]
    rw [e]
    show sgn qs * (A 0 0 * _) = A 0 0 * (sgn qs * _)
    rw [← Int.mul_assoc, ← Int.mul_assoc, Int.mul_comm (sgn qs)]
  · have hps := names_allAt hps
    rw [decide_eq_false_iff_not] at hp
    unfold term
    have h0 : 0 < n + 1 := by omega
    have hix := hps.ix h0
    have hne : ps.idxOf 0 ≠ 0 := fun z => hp (by have := names_at_ix hps h0; rw [z] at this; exact this)
    rw [prN_zero (i := ps.idxOf 0) hix ?_]
    · exact Int.mul_zero _
    · rw [names_at_ix hps h0]
      obtain ⟨m, hm⟩ : ∃ m, ps.idxOf 0 = m + 1 := ⟨ps.idxOf 0 - 1, by omega⟩
      rw [hm]
      exact h m (by omega)
end AT

/-! ## clearing rows without fractions -/
namespace AT
open PySem
def chioY (X : Nat → Nat → Int) : Nat → Nat → Int := fun i j => X 0 0 * X (i + 1) (j + 1) - X (i + 1) 0 * X 0 (j + 1)
def chioZ (X : Nat → Nat → Int) (t : Nat) : Nat → Nat → Int := fun i j => if 1 ≤ i ∧ i ≤ t then X 0 0 * X i j - X i 0 * X 0 j else X i j
theorem chioZ_det {r : Nat} {X : Nat → Nat → Int} : ∀ t, t ≤ r → detL (r + 1) (chioZ X t) = X 0 0 ^ t * detL (r + 1) X
  | 0, _ => by
    have : chioZ X 0 = X := funext fun i => funext fun j => by unfold chioZ; rw [if_neg (by omega)]
    rw [this, Int.pow_zero, Int.one_mul]
  | t + 1, h => by
    have ih := chioZ_det (r := r) (X := X) t (by omega)
    have e : chioZ X (t + 1) = setR (chioZ X t) (t + 1) fun j => X 0 0 * chioZ X t (t + 1) j + (0 - X (t + 1) 0) * chioZ X t 0 j := funext fun i => funext fun j => by
      have h1 : chioZ X t (t + 1) j = X (t + 1) j := by unfold chioZ; rw [if_neg (by omega)]
      have h2 : chioZ X t 0 j = X 0 j := by unfold chioZ; rw [if_neg (by omega)]
      unfold setR
      dsimp only
      rw [h1, h2]
      by_cases e : i = t + 1
      · subst e
        rw [if_pos rfl]
        unfold chioZ
        rw [if_pos (by omega)]
        grind
      · rw [if_neg e]
        unfold chioZ
        by_cases h3 : 1 ≤ i ∧ i ≤ t
        · rw [if_pos h3, if_pos (by omega)]
        · rw [if_neg h3, if_neg (by omega)]
    rw [e, detL_op (by omega) (by omega) (by omega), ih, Int.pow_succ]
    grind
theorem chio {r : Nat} {X : Nat → Nat → Int} : X 0 0 ^ r * detL (r + 1) X = X 0 0 * detL r (chioY X) := by
  rw [← chioZ_det r (Nat.le_refl r), detL_block fun i hi => ?_]
  · have h0 : chioZ X r 0 0 = X 0 0 := by unfold chioZ; rw [if_neg (by omega)]
    rw [h0]
    refine congrArg _ (detL_congr fun i j hi _ => ?_)
    unfold chioZ chioY
    rw [if_pos (by omega)]
  · unfold chioZ
    rw [if_pos (by omega)]
    grind
theorem detL_scale {n : Nat} {A : Nat → Nat → Int} (d : Int) : detL n (fun i j => d * A i j) = d ^ n * detL n A := by
  unfold detL
  rw [← sumL_mul]
  refine sumL_congr fun ps _ => ?_
  unfold term
  have : ∀ n (h : Nat → Int), prN n (fun i => d * h i) = d ^ n * prN n h := fun n => by
    induction n with
    | zero =>
      intro h
      show (1 : Int) = d ^ 0 * 1
      rw [Int.pow_zero]
      rfl
    | succ n ih =>
      intro h
      rw [prN_succ, prN_succ, ih fun i => h (i + 1), Int.pow_succ]
      grind
  rw [this n fun i => A i (ps.getD i 0)]
  grind
theorem detL_one {A : Nat → Nat → Int} : detL 1 A = A 0 0 := by
  have h : allAt 1 1 = [[0]] := by decide
  unfold detL
  rw [h]
  show sgn [0] * (A 0 0 * 1) + 0 = A 0 0
  have : sgn [0] = 1 := by decide
  rw [this]
  omega
theorem detL_two {A : Nat → Nat → Int} : detL 2 A = A 0 0 * A 1 1 - A 0 1 * A 1 0 := by
  have h : allAt 2 2 = [[0, 1], [1, 0]] := by decide
  unfold detL
  rw [h]
  show sgn [0, 1] * (A 0 0 * (A 1 1 * 1)) + (sgn [1, 0] * (A 0 1 * (A 1 0 * 1)) + 0) = _
  have h1 : sgn [0, 1] = 1 := by decide
  have h2 : sgn [1, 0] = -1 := by decide
  rw [h1, h2]
  grind
theorem detL_nil {A : Nat → Nat → Int} : detL 0 A = 1 := by
  have h : allAt 0 0 = [[]] := by decide
  unfold detL
  rw [h]
  rfl
/-- how far it has come: m rows are left, d is the pivot ahead, s the sign, L what is looked for -/
structure Bar (L : Int) (m : Nat) (X : Nat → Nat → Int) (d s : Int) : Prop where
  d0 : d ≠ 0
  dv : ∀ (r : Nat) (ρ γ : Nat → Nat), (∀ i, i < r + 1 → ρ i < m) → (∀ j, j < r + 1 → γ j < m) → ∃ c, detL (r + 1) (fun i j => X (ρ i) (γ j)) = d ^ r * c
  dt : ∀ t, m = t + 1 → s * detL m X = d ^ t * L
theorem Bar.start {n : Nat} {A : Nat → Nat → Int} : Bar (detL n A) n A 1 1 := ⟨by decide, fun r ρ γ _ _ => ⟨_, by rw [Int.one_pow, Int.one_mul]⟩, fun t _ => by rw [Int.one_pow]⟩
theorem Bar.exact {L : Int} {m : Nat} {X : Nat → Nat → Int} {d s : Int} (B : Bar L m X d s) {i j : Nat} (hi : i + 1 < m) (hj : j + 1 < m) : ∃ c, chioY X i j = d * c := by
  obtain ⟨c, hc⟩ := B.dv 1 (fun k => if k = 0 then 0 else i + 1) (fun k => if k = 0 then 0 else j + 1) (fun k _ => by show (if k = 0 then 0 else i + 1) < m; split <;> omega) (fun k _ => by show (if k = 0 then 0 else j + 1) < m; split <;> omega)
  refine ⟨c, ?_⟩
  have h := hc
  rw [detL_two] at h
  unfold chioY
  simp at h
  rw [Int.pow_succ, Int.pow_zero, Int.one_mul] at h
  rw [← h]
  grind
theorem pow_ne {d : Int} (h : d ≠ 0) : ∀ n : Nat, d ^ n ≠ 0
  | 0 => by rw [Int.pow_zero]; decide
  | n + 1 => by
    rw [Int.pow_succ]
    exact Int.mul_ne_zero (pow_ne h n) h
theorem Bar.zero {L : Int} {m : Nat} {X : Nat → Nat → Int} {d s : Int} (B : Bar L m X d s) (hm : 1 ≤ m) (h : ∀ i, i < m → X i 0 = 0) : L = 0 := by
  obtain ⟨t, rfl⟩ : ∃ t, m = t + 1 := ⟨m - 1, by omega⟩
  have h1 := B.dt t rfl
  rw [detL_col0 (by omega) h, Int.mul_zero] at h1
  exact (Int.mul_eq_zero.mp h1.symm).resolve_left (pow_ne B.d0 t)
theorem Bar.last {L : Int} {X : Nat → Nat → Int} {d s : Int} (B : Bar L 1 X d s) : s * X 0 0 = L := by
  have h1 := B.dt 0 rfl
  rw [detL_one, Int.pow_zero, Int.one_mul] at h1
  exact h1
theorem Bar.swap {L : Int} {m p : Nat} {X : Nat → Nat → Int} {d s : Int} (B : Bar L m X d s) (hp : p < m) (hne : 0 < p) : Bar L m (setR (setR X 0 (X p)) p (X 0)) d (0 - s) := by
  refine ⟨B.d0, fun r ρ γ hr hg => ?_, fun t ht => ?_⟩
  · have h1 : ∀ i j, setR (setR X 0 (X p)) p (X 0) i j = X (if i = p then 0 else if i = 0 then p else i) j := fun i j => by
      unfold setR
      by_cases e : i = p
      · rw [if_pos e, if_pos e]
      · by_cases e2 : i = 0
        · rw [if_neg e, if_neg e, if_pos e2, if_pos e2]
        · rw [if_neg e, if_neg e, if_neg e2, if_neg e2]
    obtain ⟨c, hc⟩ := B.dv r (fun i => if ρ i = p then 0 else if ρ i = 0 then p else ρ i) γ (fun i hi => by
      have := hr i hi
      show (if ρ i = p then 0 else if ρ i = 0 then p else ρ i) < m
      split
      · omega
      · split <;> omega) hg
    refine ⟨c, ?_⟩
    rw [← hc]
    exact detL_congr fun i j _ _ => h1 _ _
  · rw [detL_swap (by omega) hp (by omega)]
    have := B.dt t ht
    rw [← this]
    grind
theorem Bar.step {L : Int} {m : Nat} {X X' : Nat → Nat → Int} {d s : Int} (B : Bar L (m + 1) X d s) (hp : X 0 0 ≠ 0) (h : ∀ i j, i < m → j < m → d * X' i j = chioY X i j) : Bar L m X' (X 0 0) s := by
  refine ⟨hp, fun r ρ γ hr hg => ?_, fun t ht => ?_⟩
  · obtain ⟨c, hc⟩ := B.dv (r + 1) (fun i => if i = 0 then 0 else ρ (i - 1) + 1) (fun i => if i = 0 then 0 else γ (i - 1) + 1)
      (fun i hi => by
        show (if i = 0 then 0 else ρ (i - 1) + 1) < m + 1
        split
        · omega
        · have := hr (i - 1) (by omega)
          omega)
      (fun i hi => by
        show (if i = 0 then 0 else γ (i - 1) + 1) < m + 1
        split
        · omega
        · have := hg (i - 1) (by omega)
          omega)
    have h1 := chio (r := r + 1) (X := fun i j => X (if i = 0 then 0 else ρ (i - 1) + 1) (if j = 0 then 0 else γ (j - 1) + 1))
    rw [hc] at h1
    have h2 : detL (r + 1) (chioY fun i j => X (if i = 0 then 0 else ρ (i - 1) + 1) (if j = 0 then 0 else γ (j - 1) + 1)) = detL (r + 1) fun i j => d * X' (ρ i) (γ j) := detL_congr fun i j hi hj => by
      rw [h _ _ (hr i hi) (hg j hj)]
      unfold chioY
      simp
    rw [h2, detL_scale] at h1
    have h1 : X 0 0 ^ (r + 1) * (d ^ (r + 1) * c) = X 0 0 * (d ^ (r + 1) * detL (r + 1) fun i j => X' (ρ i) (γ j)) := h1
    refine ⟨c, ?_⟩
    have h3 : (X 0 0 * d ^ (r + 1)) * (detL (r + 1) fun i j => X' (ρ i) (γ j)) = (X 0 0 * d ^ (r + 1)) * (X 0 0 ^ r * c) := by
      rw [Int.pow_succ (X 0 0)] at h1
      grind
    exact Int.eq_of_mul_eq_mul_left (Int.mul_ne_zero hp (pow_ne B.d0 _)) h3
  · have h1 := chio (r := m) (X := X)
    have h2 : detL m (chioY X) = d ^ m * detL m X' := by
      rw [← detL_scale]
      exact detL_congr fun i j hi hj => (h i j hi hj).symm
    have h3 := B.dt m rfl
    rw [h2] at h1
    have h4 : (X 0 0 * d ^ m) * (s * detL m X') = (X 0 0 * d ^ m) * (X 0 0 ^ t * L) := by
      have h5 : X 0 0 ^ m = X 0 0 ^ t * X 0 0 := by rw [ht, Int.pow_succ]
      rw [h5] at h1
      have : s * (X 0 0 ^ t * X 0 0 * detL (m + 1) X) = s * (X 0 0 * (d ^ m * detL m X')) := by rw [h1]
      generalize detL m X' = u at *
      generalize detL (m + 1) X = v at *
      generalize X 0 0 ^ t = w at *
      generalize d ^ m = z at *
      generalize X 0 0 = p at *
      have e : s * (w * p * v) = w * p * (s * v) := by grind
      rw [e, h3] at this
      grind
    exact Int.eq_of_mul_eq_mul_left (Int.mul_ne_zero hp (pow_ne B.d0 _)) h4
end AT

/-! ## clearing rows: the whole matrix, the numbers' size -/
namespace AT
open PySem
def bt : Nat → Nat
  | 0 => 7
  | k + 1 => 2 * bt k + 1
theorem bt_pos : ∀ k, 0 < bt k
  | 0 => by decide
  | k + 1 => by show 0 < 2 * bt k + 1; omega
theorem bt_mono {i j : Nat} (h : i ≤ j) : bt i ≤ bt j := by
  induction h with
  | refl => exact Nat.le_refl _
  | step _ ih => exact Nat.le_trans ih (by show _ ≤ 2 * bt _ + 1; omega)
/-- the state at step k: the rows from k on are what is left -/
structure DI (n : Nat) (L : Int) (k : Nat) (R : Nat → Nat → Int) (d s : Int) : Prop where
  lt : k < n
  bar : Bar L (n - k) (fun i j => R (k + i) (k + j)) d s
  zer : ∀ i j, k ≤ i → i < n → j < k → R i j = 0
  bd : ∀ i j, k ≤ i → i < n → j < n → (R i j).natAbs < 2 ^ bt k
  db : d.natAbs < 2 ^ bt k
  sb : s.natAbs = 1
theorem DI.start {n : Nat} {f : Nat → Nat → Int} (hn : 1 ≤ n) (hb : ∀ i j, i < n → j < n → (f i j).natAbs < 2 ^ 7) : DI n (detL n f) 0 f 1 1 :=
  ⟨hn, by
    have : (fun i j => f (0 + i) (0 + j)) = f := funext fun i => funext fun j => by rw [Nat.zero_add, Nat.zero_add]
    rw [this, Nat.sub_zero]
    exact Bar.start, fun _ _ _ _ h => absurd h (Nat.not_lt_zero _), fun i j _ hi hj => hb i j hi hj, by decide, by decide⟩
theorem DI.none {n k : Nat} {L : Int} {R : Nat → Nat → Int} {d s : Int} (D : DI n L k R d s) (h : ∀ i, k ≤ i → i < n → R i k = 0) : L = 0 :=
  D.bar.zero (by have := D.lt; omega) fun i hi => h (k + i) (by omega) (by omega)
def exR (R : Nat → Nat → Int) (k a : Nat) : Nat → Nat → Int := fun i j => if i = a then R k j else if i = k then R a j else R i j
theorem DI.swap {n k a : Nat} {L : Int} {R : Nat → Nat → Int} {d s : Int} (D : DI n L k R d s) (hk : k < a) (ha : a < n) : DI n L k (exR R k a) d (0 - s) := by
  refine ⟨D.lt, ?_, fun i j hi hn hj => ?_, fun i j hi hn hj => ?_, D.db, ?_⟩
  · have h := D.bar.swap (p := a - k) (by omega) (by omega)
    have e : (fun i j => exR R k a (k + i) (k + j)) = setR (setR (fun i j => R (k + i) (k + j)) 0 fun j => R (k + (a - k)) (k + j)) (a - k) fun j => R (k + 0) (k + j) := funext fun i => funext fun j => by
      unfold exR setR
      by_cases e1 : i = a - k
      · rw [if_pos (by omega), if_pos e1]
        rfl
      · rw [if_neg (by omega), if_neg e1]
        by_cases e2 : i = 0
        · subst e2
          rw [if_pos (by omega), if_pos rfl, show k + (a - k) = a by omega]
        · rw [if_neg (by omega), if_neg e2]
    rw [e]
    exact h
  · unfold exR
    split
    · exact D.zer k j (Nat.le_refl _) D.lt hj
    · split
      · exact D.zer a j (by omega) ha hj
      · exact D.zer i j hi hn hj
  · unfold exR
    split
    · exact D.bd k j (Nat.le_refl _) D.lt hj
    · split
      · exact D.bd a j (by omega) ha hj
      · exact D.bd i j hi hn hj
  · have := D.sb
    omega
def xnR (R : Nat → Nat → Int) (d : Int) (k i j : Nat) : Int := (R k k * R i j - R i k * R k j).fdiv d
def mixR (R : Nat → Nat → Int) (d : Int) (k u : Nat) : Nat → Nat → Int := fun i j => if k < i ∧ i < u then xnR R d k i j else R i j
theorem DI.ex {n k i j : Nat} {L : Int} {R : Nat → Nat → Int} {d s : Int} (D : DI n L k R d s) (hi : k < i) (hin : i < n) (hj : j < n) : d * xnR R d k i j = R k k * R i j - R i k * R k j := by
  have key : ∀ c, R k k * R i j - R i k * R k j = d * c → d * xnR R d k i j = R k k * R i j - R i k * R k j := fun c hc => by
    unfold xnR
    rw [hc, Int.mul_fdiv_cancel_left _ D.bar.d0]
  by_cases h : j ≤ k
  · have e : R k k * R i j - R i k * R k j = 0 := by
      by_cases e : j = k
      · subst e
        grind
      · rw [D.zer i j (by omega) hin (by omega), D.zer k j (Nat.le_refl _) D.lt (by omega)]
        omega
    exact key 0 (by rw [e]; omega)
  · obtain ⟨c, hc⟩ := D.bar.exact (i := i - k - 1) (j := j - k - 1) (by omega) (by omega)
    unfold chioY at hc
    dsimp only at hc
    rw [show k + (i - k - 1 + 1) = i by omega, show k + (j - k - 1 + 1) = j by omega, Nat.add_zero] at hc
    exact key c hc
theorem nat_mul_lt {a b c e : Nat} (h1 : a < 2 ^ c) (h2 : b < 2 ^ e) : a * b < 2 ^ (c + e) := by
  rw [Nat.pow_add]
  exact Nat.lt_of_le_of_lt (Nat.mul_le_mul_right b (Nat.le_of_lt h1)) (Nat.mul_lt_mul_of_pos_left h2 (Nat.two_pow_pos c))
theorem DI.xbd {n k i j : Nat} {L : Int} {R : Nat → Nat → Int} {d s : Int} (D : DI n L k R d s) (hi : k < i) (hin : i < n) (hj : j < n) : (xnR R d k i j).natAbs < 2 ^ bt (k + 1) := by
  have h := D.ex hi hin hj
  have h1 := nat_mul_lt (D.bd k k (Nat.le_refl _) D.lt D.lt) (D.bd i j (by omega) hin hj)
  have h2 := nat_mul_lt (D.bd i k (by omega) hin D.lt) (D.bd k j (Nat.le_refl _) D.lt hj)
  rw [← Int.natAbs_mul] at h1 h2
  have h3 : (d * xnR R d k i j).natAbs < 2 ^ bt (k + 1) := by
    rw [h]
    have e : (2 : Nat) ^ bt (k + 1) = 2 ^ (bt k + bt k) + 2 ^ (bt k + bt k) := by
      show 2 ^ (2 * bt k + 1) = _
      rw [Nat.pow_succ, show 2 * bt k = bt k + bt k by omega]
      omega
    rw [e]
    omega
  rw [Int.natAbs_mul] at h3
  have hd : 1 ≤ d.natAbs := by
    have := D.bar.d0
    omega
  exact Nat.lt_of_le_of_lt (Nat.le_mul_of_pos_left _ hd) h3
theorem DI.step {n k : Nat} {L : Int} {R : Nat → Nat → Int} {d s : Int} (D : DI n L k R d s) (hp : R k k ≠ 0) (hk : k + 1 < n) : DI n L (k + 1) (mixR R d k n) (R k k) s := by
  have hm : ∀ i j, k < i → i < n → mixR R d k n i j = xnR R d k i j := fun i j h1 h2 => by
    unfold mixR
    rw [if_pos ⟨h1, h2⟩]
  refine ⟨hk, ?_, fun i j hi hn hj => ?_, fun i j hi hn hj => ?_, ?_, D.sb⟩
  · have B := D.bar
    rw [show n - k = (n - (k + 1)) + 1 by omega] at B
    have hp' : (fun i j => R (k + i) (k + j)) 0 0 ≠ 0 := hp
    have := B.step (X' := fun i j => mixR R d k n (k + 1 + i) (k + 1 + j)) hp' fun i j hi hj => by
      show d * mixR R d k n (k + 1 + i) (k + 1 + j) = _
      rw [hm _ _ (by omega) (by omega), D.ex (by omega) (by omega) (by omega)]
      unfold chioY
      dsimp only
      rw [show k + (i + 1) = k + 1 + i by omega, show k + (j + 1) = k + 1 + j by omega]
      rfl
    exact this
  · rw [hm _ _ (by omega) hn]
    have h := D.ex (i := i) (j := j) (by omega) hn (by have := D.lt; omega)
    have e : R k k * R i j - R i k * R k j = 0 := by
      by_cases e : j = k
      · subst e
        grind
      · rw [D.zer i j (by omega) hn (by omega), D.zer k j (Nat.le_refl _) D.lt (by omega)]
        omega
    rw [e] at h
    exact (Int.mul_eq_zero.mp h).resolve_left D.bar.d0
  · rw [hm _ _ (by omega) hn]
    exact D.xbd (by omega) hn hj
  · exact Nat.lt_of_lt_of_le (D.bd k k (Nat.le_refl _) D.lt D.lt) (Nat.pow_le_pow_right (by decide) (bt_mono (Nat.le_succ k)))
theorem DI.last {n k : Nat} {L : Int} {R : Nat → Nat → Int} {d s : Int} (D : DI n L k R d s) (hk : k + 1 = n) : s * R k k = L := by
  have B := D.bar
  rw [show n - k = 1 by omega] at B
  exact B.last
end AT

/-! ## determinant -/
namespace AT
open PySem PySem.Spec PyProof.Rows L2 Evl
def sp_determinant (K : Frag) : Sp := fun vs H Q _ => ∃ a n f, vs = [.ref a] ∧ LLI K H a (Fm n f) ∧ 1 ≤ n ∧ n ≤ 6 ∧ (∀ i j, i < n → j < n → (f i j).natAbs < 2 ^ 7) ∧ ∀ H', Ex H H' → Q (.int (detL n f)) H'
theorem fm_set {n i : Nat} {R R' : Nat → Nat → Int} {w : Nat → Int} (hw : ∀ j, j < n → R' i j = w j) (ho : ∀ a j, a < n → a ≠ i → j < n → R' a j = R a j) : (Fm n R).set i ((List.range n).map w) = Fm n R' := by
  refine List.ext_getElem? fun a => ?_
  by_cases h : a < n
  · rw [fm_get h]
    by_cases e : a = i
    · subst e
      rw [List.getElem?_set_self (by rw [fm_len]; exact h)]
      exact congrArg some (List.map_congr_left fun j hj => (hw j (List.mem_range.mp hj)).symm)
    · rw [List.getElem?_set_ne (Ne.symm e), fm_get h]
      exact congrArg some (List.map_congr_left fun j hj => (ho a j h e (List.mem_range.mp hj)).symm)
  · rw [List.getElem?_eq_none (by rw [List.length_set, fm_len]; omega), List.getElem?_eq_none (by rw [fm_len]; omega)]
theorem bt6 {k : Nat} (h : k ≤ 6) : bt k ≤ 511 := Nat.le_trans (bt_mono h) (by decide)
section
variable {P : Program} {w : World} {K : Frag} {mg : Str → Option Value} {base : Heap} {k : Nat}
theorem ok_determinant (T : Txt K mg) : FnOk P w K mg base CX0 (k + 1) T.f_determinant T.d_determinant ["form"] (sp_determinant K) := by
  refine T.F_determinant.ok sc_determinant (fun vs H Q E h => ?_) (fun cdv A outer s H vs Q E hr h => ?_)
  · obtain ⟨a, n, f, rfl, _⟩ := h
    rfl
  · obtain ⟨a, n, f, rfl, hM, hn1, hn6, hb, q⟩ := h
    refine ⟨_, (pss_cons (ps_set (i := 1) sc_determinant.nd rfl (.inr rfl) (pe_lc (own := [("row", 9)]) rfl sc_determinant.nd (pi_listK K (pv 0)) (blkOk_by (own := [("row", 9)]) (N := N_determinant) (sc := defScope s_determinant) (by decide +kernel)) (fun _ _ _ _ _ => (pg_name (i := 9) sc_determinant.nd rfl (.inl rfl))) (fun _ _ _ _ _ => pts_nil) (fun _ _ _ _ _ => (pe_callTy (listK K) rfl T.b_list (by decide +kernel) (pa_cons (pv 9) pa_nil)))))
      (pss_cons (ps_set (i := 2) sc_determinant.nd rfl (.inl rfl) pe_int)
      (pss_cons (ps_set (i := 3) sc_determinant.nd rfl (.inr rfl) pe_int)
      (pss_cons (ps_for PassesOwn.never rfl (pi_range1 rfl T.b_range (pa_cons (pe_callB (lenK K) rfl T.b_len PySem.boot_len (pa_cons (pv 1) pa_nil)) pa_nil)) (pg_name (i := 4) sc_determinant.nd rfl (.inr rfl))
        (pss_cons (ps_set (i := 5) sc_determinant.nd rfl (.inl rfl) (pv 4))
      (pss_cons (ps_while PassesOwn.never (PW.pt (pw_and (pt_cmpR op_lt (pv 5) (pe_callB (lenK K) rfl T.b_len PySem.boot_len (pa_cons (pv 1) pa_nil)) (nomark _)) (pw_and1 (pt_cmpR op_eq (pe_ix (ixL K) (pe_ix (ixL K) (pv 1) (pv 5) (fun _ _ => rfl)) (pv 4) (fun _ _ => rfl)) pe_int (nomark _)))))
        (pss_one (ps_set (i := 5) sc_determinant.nd rfl (.inl rfl) (pe_op op_add (pv 5) pe_int))))
      (pss_cons (ps_if (pt_cmpR op_eq (pv 5) (pe_callB (lenK K) rfl T.b_len PySem.boot_len (pa_cons (pv 1) pa_nil)) (nomark _))
        (pss_one (ps_ret pe_int))
        pss_nil)
      (pss_cut (ps_if (pt_cmpR op_gt (pv 5) (pv 4) (nomark _))
        (pss_cons (ps_set (i := 6) sc_determinant.nd rfl (.inl rfl) (pe_ix (ixL K) (pv 1) (pv 4) (fun _ _ => rfl)))
      (pss_cons (ps_asg (pe_ix (ixL K) (pv 1) (pv 5) (fun _ _ => rfl)) (pg_sub (pv 1) (pv 4) set_list))
      (pss_cons (ps_asg (pv 6) (pg_sub (pv 1) (pv 5) set_list))
      (pss_one (ps_set (i := 2) sc_determinant.nd rfl (.inl rfl) (pe_op op_sub pe_int (pv 2)))))))
        pss_nil)
      (pss_cons (ps_for PassesOwn.never rfl (pi_range2 rfl T.b_range (pa_cons (pe_op op_add (pv 4) pe_int) (pa_cons (pe_callB (lenK K) rfl T.b_len PySem.boot_len (pa_cons (pv 1) pa_nil)) pa_nil))) (pg_name (i := 7) sc_determinant.nd rfl (.inl rfl))
        (pss_cons (ps_set (i := 8) sc_determinant.nd rfl (.inr rfl) (pe_ix (ixL K) (pe_ix (ixL K) (pv 1) (pv 7) (fun _ _ => rfl)) (pv 4) (fun _ _ => rfl)))
      (pss_one (ps_asg (pe_lc (own := [("one", 10), ("other", 11)]) rfl sc_determinant.nd (pi_zipK K rfl T.b_zip (pa_cons (pe_ix (ixL K) (pv 1) (pv 7) (fun _ _ => rfl)) (pa_cons (pe_ix (ixL K) (pv 1) (pv 4) (fun _ _ => rfl)) pa_nil))) (blkOk_by (own := [("one", 10), ("other", 11)]) (N := N_determinant) (sc := defScope s_determinant) (by decide +kernel)) (fun _ _ _ _ _ => (pg_tupK K (n := 2) rfl (pgs_cons (pg_name (i := 10) sc_determinant.nd rfl (.inl rfl)) (pgs_cons (pg_name (i := 11) sc_determinant.nd rfl (.inl rfl)) pgs_nil)))) (fun _ _ _ _ _ => pts_nil) (fun _ _ _ _ _ => (pe_op op_fdivX (pe_op op_sub (pe_op op_mulW (pe_ix (ixL K) (pe_ix (ixL K) (pv 1) (pv 4) (fun _ _ => rfl)) (pv 4) (fun _ _ => rfl)) (pv 10)) (pe_op op_mulW (pv 8) (pv 11))) (pv 3)))) (pg_sub (pv 1) (pv 7) set_list)))))
      (pss_one (ps_set (i := 3) sc_determinant.nd rfl (.inr rfl) (pe_ix (ixL K) (pe_ix (ixL K) (pv 1) (pv 4) (fun _ _ => rfl)) (pv 4) (fun _ _ => rfl))))))))))
      (pss_one (ps_ret (pe_op op_mulW (pv 2) (pv 3)))))))), ?_⟩
    refine qr_asg (R := RM (Fm n f)) ?_ fun v H1 e1 ⟨p, hv, hO⟩ => ?_
    · obtain ⟨as, hA, hP⟩ := id hM
      have hlen := hP.length
      have := em_lcL (K := K) (te := tCB (rListS K) (tCons (tVar 9) tNil)) (fun i => (Fm n f).getD i []) (ev_var (σ := [some (V.ref a), none, none, none, none, none, none, none, none, none, none, none]) (i := 0) (H := H) rfl) hA (by rw [List.length_map, hlen, fm_len]; omega) (fun _ => rfl) (fun i x H1 e1 hx => er_of_evl ?_) (j := 9) (vs := [9])
      · rw [List.length_map, hlen, ← list_eq_range] at this
        exact this
      · rw [List.getElem?_map] at hx
        cases hy : as[i]? with
        | none => rw [hy] at hx; cases hx
        | some y =>
          rw [hy] at hx
          cases hx
          obtain ⟨r, h1, h2⟩ := paired_getL hP hy
          rw [List.getD_eq_getElem?_getD, h1]
          exact el_list (ev_var rfl) (h2.mono e1)
    subst hv
    refine q_asg ev_c fun H2 e2 => q_asg ev_c fun H3 e3 => ?_
    have hRA : RA H H3 p (Fm n f) := (hO.ra.mono e2).mono e3
    have eH3 := (e1.trans e2).trans e3
    refine q_forR1 (n := (n : Int)) (ea_cons (ev_lenFm (ev_var rfl) hRA.lli) ea_nil) (by omega) (fun k σ' H' => ∃ s d x4 x5 x6 x7 x8, σ' = [some (.ref a), some (.ref p), some (.int s), some (.int d), x4, x5, x6, x7, x8, none, none, none] ∧ Ex H H' ∧
        ((k < n ∧ ∃ R, RA H H' p (Fm n R) ∧ DI n (detL n f) k R d s) ∨ (k = n ∧ s * d = detL n f ∧ s.natAbs = 1 ∧ d.natAbs < 2 ^ 511)))
      (fun H4 e4 => ⟨1, 1, _, _, _, _, _, rfl, eH3.trans e4, .inl ⟨by omega, f, hRA.mono e4, DI.start hn1 hb⟩⟩) (fun k σ' H' hk hP => ?_) (fun σ' H' hP => ?_)
    · obtain ⟨s, d, x4, x5, x6, x7, x8, rfl, eH, hI⟩ := hP
      have hkn : k < n := by omega
      obtain ⟨_, R, hR, hD⟩ := hI.resolve_right (by omega)
      have hbk := bt6 (k := k) (by omega)
      refine q_asg (ev_var rfl) fun H4 e4 => ?_
      have hR4 := hR.mono e4
      refine q_while (fun m σ2 H2 => ∃ at_ : Nat, m = n - at_ ∧ k ≤ at_ ∧ at_ ≤ n ∧ σ2 = [some (.ref a), some (.ref p), some (.int s), some (.int d), some (.int (k : Int)), some (.int (at_ : Int)), x6, x7, x8, none, none, none] ∧ Ex H4 H2 ∧ ∀ i, k ≤ i → i < at_ → R i k = 0) (n - k)
        ⟨k, rfl, Nat.le_refl _, by omega, rfl, Ex.refl _, fun i h1 h2 => absurd h1 (by omega)⟩ fun m σ2 H2 hW => ?_
      obtain ⟨u, rfl, hu1, hu2, rfl, e5, hz⟩ := hW
      have hR5 := hR4.mono e5
      refine ⟨decide ((u : Int) < (n : Int)) && decide (V.int (R u k) = V.int 0), et_and (et_test (ev_op (ev_var rfl) (ev_lenFm (ev_var rfl) hR5.lli) rv_I0)) fun hb => et_test (ev_op (ev_fm (n := n) (f := R) (i := u) (j := k) (ev_var rfl) (ev_var rfl) (ev_var rfl) hR5.lli (by rw [decide_eq_true_eq] at hb; omega) hkn) ev_c (rv_eq rfl)), fun hb H6 e6 => ?_, fun hb H6 e6 => ?_⟩
      · simp only [Bool.and_eq_true, decide_eq_true_eq] at hb
        refine ⟨fun σ3 H3 => ∃ at_ : Nat, n - (u + 1) = n - at_ ∧ k ≤ at_ ∧ at_ ≤ n ∧ σ3 = [some (.ref a), some (.ref p), some (.int s), some (.int d), some (.int (k : Int)), some (.int (at_ : Int)), x6, x7, x8, none, none, none] ∧ Ex H4 H3 ∧ ∀ i, k ≤ i → i < at_ → R i k = 0, fun σ3 H3 h => ⟨n - (u + 1), by omega, h⟩, ?_⟩
        refine s_asg (ev_op (ev_var rfl) ev_c rv_I0) fun H7 e7 => ⟨u + 1, rfl, by omega, by omega, rfl, (e5.trans e6).trans e7, fun i h1 h2 => ?_⟩
        by_cases e : i = u
        · rw [e]
          have := hb.2
          injection this
        · exact hz i h1 (by omega)
      · have hR6 := hR5.mono e6
        refine q_when (et_test (ev_op (ev_var rfl) (ev_lenFm (ev_var rfl) hR6.lli) (rv_eq rfl))) (fun hc H7 e7 => s_ret ev_c fun H8 e8 => ?_) (fun hc H7 e7 => ?_)
        · rw [decide_eq_true_eq] at hc
          have hun : u = n := by injection hc with hc; omega
          have := hD.none fun i h1 h2 => hz i h1 (by omega)
          have q' := q H8 ((((eH.trans e4).trans e5).trans e6).trans (e7.trans e8))
          rw [this] at q'
          exact q'
        · have hun : u < n := by
            rcases Nat.lt_or_ge u n with h | h
            · exact h
            · have : u = n := by omega
              rw [this] at hc
              simp at hc
          have hRu : R u k ≠ 0 := fun z => by
            rw [z, decide_eq_true (show (u : Int) < (n : Int) by omega), decide_eq_true rfl] at hb
            cases hb
          have e47 := (e5.trans e6).trans e7
          have hR7 := hR6.mono e7
          have eH7 := (eH.trans e4).trans e47
          refine q_cut (M := fun σ' H' => ∃ R s x6, σ' = [some (.ref a), some (.ref p), some (.int s), some (.int d), some (.int (k : Int)), some (.int (u : Int)), x6, x7, x8, none, none, none] ∧ Ex H H' ∧ RA H H' p (Fm n R) ∧ DI n (detL n f) k R d s ∧ R k k ≠ 0) ?_ fun σ' H8 hP => ?_
          · refine s_when (et_test (ev_op (ev_var rfl) (ev_var rfl) rv_I0)) (fun hg H8 e8 => ?_) (fun hg H8 e8 => ?_)
            · rw [decide_eq_true_eq] at hg
              have hku : k < u := by omega
              have hR8 := hR7.mono e8
              obtain ⟨h0, as, h1, h2, h3⟩ := id hR8
              obtain ⟨x, hx1, hx2⟩ := paired_get h3 (fm_get hkn)
              obtain ⟨y, hy1, hy2⟩ := paired_get h3 (fm_get hun)
              have hxp : x ≠ p := fun z => h2 (z ▸ List.mem_of_getElem? hx1)
              have hyp : y ≠ p := fun z => h2 (z ▸ List.mem_of_getElem? hy1)
              refine q_asg (ev_op (ev_var rfl) (ev_var rfl) (rv_ixL (sq_of h1) (atI_n (by rw [List.getElem?_map, hx1]; rfl)))) fun H9 e9 => ?_
              refine q_setRef (i := k) (hR8.mono e9) (ev_op (ev_var rfl) (ev_var rfl) (rv_ixL (sq_of (e9 _ _ h1)) (atI_n (by rw [List.getElem?_map, hy1]; rfl)))) (e9 _ _ hy2) hyp (ev_var rfl) (ev_var rfl) (by rw [fm_len]; exact hkn) ((eH7.trans e8).trans e9) fun H10 e10 hR10 hk10 => ?_
              refine q_setRef (i := u) hR10 (ev_var rfl) (hk10 _ _ hxp (e9 _ _ hx2)) hxp (ev_var rfl) (ev_var rfl) (by rw [List.length_set, fm_len]; exact hun) e10 fun H11 e11 hR11 _ => ?_
              refine s_asg (ev_op ev_c (ev_var rfl) rv_I0) fun H12 e12 => ⟨exR R k u, 0 - s, _, rfl, e11.trans e12, ?_, hD.swap hku hun, ?_⟩
              · have e1 : (Fm n R).set k ((List.range n).map (R u)) = Fm n (fun i j => if i = k then R u j else R i j) := fm_set (fun j _ => if_pos rfl) fun a j _ hne _ => if_neg hne
                rw [e1, fm_set (R' := exR R k u) (fun j _ => by unfold exR; rw [if_pos rfl]) fun a j _ hne _ => by unfold exR; rw [if_neg hne]] at hR11
                exact hR11.mono e12
              · unfold exR
                rw [if_neg (by omega), if_pos rfl]
                exact hRu
            · rw [decide_eq_false_iff_not] at hg
              have : u = k := by omega
              subst this
              exact ⟨R, s, _, rfl, eH7.trans e8, hR7.mono e8, hD, hRu⟩
          · clear hRu hz hb hR7 hR6 hR5 hR4 hR hD hI
            obtain ⟨R, s, x6, rfl, eH8, hR8, hD, hp⟩ := hP
            refine q_forR2 (lo := (k : Int) + 1) (n := (n : Int)) (ea_cons (ev_op (ev_var rfl) ev_c rv_I0) (ea_cons (ev_lenFm (ev_var rfl) hR8.lli) ea_nil)) (by omega) (fun t σ' H' => ∃ x7 x8, σ' = [some (.ref a), some (.ref p), some (.int s), some (.int d), some (.int (k : Int)), some (.int (u : Int)), x6, x7, x8, none, none, none] ∧ Ex H H' ∧ RA H H' p (Fm n (mixR R d k (k + 1 + t))))
              (fun H9 e9 => ⟨_, _, rfl, eH8.trans e9, ?_⟩) (fun t σ' H9 ht hP => ?_) (fun σ' H9 hP => ?_)
            · have : Fm n (mixR R d k (k + 1 + 0)) = Fm n R := fm_ext fun i j _ _ => by unfold mixR; rw [if_neg (by omega)]
              rw [this]
              exact hR8.mono e9
            · obtain ⟨x7, x8, rfl, eH9, hR9⟩ := hP
              have hin : k + 1 + t < n := by omega
              have ei : (k : Int) + 1 + (t : Int) = ((k + 1 + t : Nat) : Int) := by omega
              rw [ei]
              generalize hi : k + 1 + t = i at *
              have hki : k < i := by omega
              have hMi : mixR R d k i i = R i := funext fun j => by unfold mixR; rw [if_neg (by omega)]
              have hMk : mixR R d k i k = R k := funext fun j => by unfold mixR; rw [if_neg (by omega)]
              refine q_asg (ev_fm (n := n) (f := mixR R d k i) (i := i) (j := k) (ev_var rfl) (ev_var rfl) (ev_var rfl) hR9.lli hin hkn) fun H10 e10 => ?_
              have hR10 := hR9.mono e10
              obtain ⟨h0, as, h1, h2, h3⟩ := id hR10
              obtain ⟨x, hx1, hx2⟩ := paired_get h3 (fm_get hin)
              obtain ⟨y, hy1, hy2⟩ := paired_get h3 (fm_get hkn)
              rw [hMi] at hx2
              rw [hMk] at hy2
              have hbR := hD.bd
              have hcell : ∀ j : Nat, j < n → ∀ (σ : St) (H11 : Hp), Ex H10 H11 → σ[1]? = some (some (V.ref p)) → σ[4]? = some (some (.int (k : Int))) → σ[8]? = some (some (.int (mixR R d k i i k))) → σ[3]? = some (some (.int d)) → σ[10]? = some (some (.int (R i j))) → σ[11]? = some (some (.int (R k j))) →
                  Ev (tOp (rI CFdX fun i j => .int (i.fdiv j)) (tOp (rI0 fun i j => .int (i - j)) (tOp (rI CMulW fun i j => .int (i * j)) (tOp (rIxL K) (tOp (rIxL K) (tVar 1) (tVar 4)) (tVar 4)) (tVar 10)) (tOp (rI CMulW fun i j => .int (i * j)) (tVar 8) (tVar 11))) (tVar 3)) σ H11 (.int (xnR R d k i j)) := fun j hj σ H11 e11 s1 s4 s8 s3 s10 s11 => by
                have hkk : Ev (tOp (rIxL K) (tOp (rIxL K) (tVar 1) (tVar 4)) (tVar 4)) σ H11 (.int (R k k)) := by
                  have := ev_fm (K := K) (n := n) (f := mixR R d k i) (i := k) (j := k) (ev_var s1) (ev_var s4) (ev_var s4) (hR10.mono e11).lli hkn hkn
                  rw [hMk] at this
                  exact this
                rw [hMi] at s8
                refine ev_op (ev_op (ev_op hkk (ev_var s10) (rv_I (wide_mul (hbR k k (Nat.le_refl _) hkn hkn) (hbR i j (by omega) hin hj) (bt_pos k) (bt_pos k) (by omega)))) (ev_op (ev_var s8) (ev_var s11) (rv_I (wide_mul (hbR i k (by omega) hin hkn) (hbR k j (Nat.le_refl _) hkn hj) (bt_pos k) (bt_pos k) (by omega)))) rv_I0) (ev_var s3) (rv_I ?_)
                exact ⟨hD.bar.d0, Nat.lt_of_lt_of_le (PySem.Flt.log2_lt_of (bt_pos k) hD.db) (by omega)⟩
              refine s_setRow (i := i) (row := (List.range n).map (xnR R d k i)) hR10 ?_ (ev_var rfl) (ev_var rfl) (by rw [fm_len]; exact hin) (eH9.trans e10) fun H11 e11 hR11 => ⟨_, _, rfl, e11, ?_⟩
              · have := el_lcZ (K := K) (te := tOp (rI CFdX fun i j => .int (i.fdiv j)) (tOp (rI0 fun i j => .int (i - j)) (tOp (rI CMulW fun i j => .int (i * j)) (tOp (rIxL K) (tOp (rIxL K) (tVar 1) (tVar 4)) (tVar 4)) (tVar 10)) (tOp (rI CMulW fun i j => .int (i * j)) (tVar 8) (tVar 11))) (tVar 3)) (i1 := 10) (i2 := 11) (vs := [10, 11]) (a := x) (b := y)
                  (σ := [some (V.ref a), some (.ref p), some (.int s), some (.int d), some (.int (k : Int)), some (.int (u : Int)), x6, some (.int (i : Int)), some (.int (mixR R d k i i k)), none, none, none]) (H := H10)
                  (tA := tCons (tOp (rIxL K) (tVar 1) (tVar 7)) (tCons (tOp (rIxL K) (tVar 1) (tVar 4)) tNil)) (fun j => .int (xnR R d k i j))
                  (ea_cons (ev_op (ev_var rfl) (ev_var rfl) (rv_ixL (sq_of h1) (atI_n (by rw [List.getElem?_map, hx1]; rfl)))) (ea_cons (ev_op (ev_var rfl) (ev_var rfl) (rv_ixL (sq_of h1) (atI_n (by rw [List.getElem?_map, hy1]; rfl)))) ea_nil))
                  (sq_of hx2) (sq_of hy2) (by simp) (by simp; omega) (fun _ _ => rfl) (fun j v1 v2 H11 e11 hv1 hv2 => ?_)
                · rw [List.length_map, List.length_map, List.length_range, given_all] at this
                  exact this
                · have hj : j < n := by
                    have := (List.getElem?_eq_some_iff.mp hv1).1
                    simpa using this
                  rw [List.getElem?_map, List.getElem?_map, List.getElem?_range hj] at hv1 hv2
                  cases hv1
                  cases hv2
                  exact hcell j hj _ H11 e11 rfl rfl rfl rfl rfl rfl
              · have e : (Fm n (mixR R d k i)).set i ((List.range n).map (xnR R d k i)) = Fm n (mixR R d k (k + 1 + (t + 1))) := fm_set (fun j _ => by unfold mixR; rw [if_pos (by omega)]) fun a' j _ hne _ => by
                  unfold mixR
                  by_cases h : k < a' ∧ a' < i
                  · rw [if_pos h, if_pos (by omega)]
                  · rw [if_neg h, if_neg (by omega)]
                rw [e] at hR11
                exact hR11
            · obtain ⟨x7, x8, rfl, eH9, hR9⟩ := hP
              have et : k + 1 + ((n : Int) - ((k : Int) + 1)).toNat = n := by omega
              rw [et] at hR9
              have hMk : mixR R d k n k = R k := funext fun j => by unfold mixR; rw [if_neg (by omega)]
              have hkk := ev_fm (K := K) (n := n) (f := mixR R d k n) (i := k) (j := k) (ev_var (σ := [some (V.ref a), some (.ref p), some (.int s), some (.int d), some (.int (k : Int)), some (.int (u : Int)), x6, x7, x8, none, none, none]) (i := 1) rfl) (ev_var (v := .int (k : Int)) (i := 4) rfl) (ev_var (v := .int (k : Int)) (i := 4) rfl) hR9.lli hkn hkn
              rw [hMk] at hkk
              refine s_asg hkk fun H10 e10 => ⟨s, R k k, _, _, _, _, _, rfl, eH9.trans e10, ?_⟩
              by_cases hl : k + 1 < n
              · exact .inl ⟨hl, _, hR9.mono e10, hD.step hp hl⟩
              · exact .inr ⟨by omega, hD.last (by omega), hD.sb, Nat.lt_of_lt_of_le (hD.bd k k (Nat.le_refl _) hkn hkn) (Nat.pow_le_pow_right (by decide) hbk)⟩
    · obtain ⟨s, d, x4, x5, x6, x7, x8, rfl, eH, hI⟩ := hP
      obtain ⟨_, h1, h2, h3⟩ := hI.resolve_left (by simp)
      refine s_ret (ev_op (ev_var rfl) (ev_var rfl) (rv_I (wide_mul (a := 1) (b := 511) (by omega) h3 (by decide) (by decide) (by decide)))) fun H4 e4 => ?_
      rw [h1]
      exact q H4 (eH.trans e4)
end
end AT

/-! ## step_of, kept -/
namespace AT
open PySem PySem.Spec PyProof.Rows L2 Evl
def gcdL (xs : List Int) : Nat := xs.foldl (fun g x => Nat.gcd g x.natAbs) 0
def stepsOf (n : Nat) (f : Nat → Nat → Int) : List Int := (Fm n f).map fun r => ((gcdL r : Nat) : Int)
def sp_step_of (K : Frag) : Sp := fun vs H Q _ => ∃ (a : Addr) (xs : List Int), vs = [.ref a] ∧ LI K H a xs ∧ xs.length ≤ 1000 ∧ ∀ H', Ex H H' → Q (.int ((gcdL xs : Nat) : Int)) H'
def RKept (n : Nat) (f : Nat → Nat → Int) : R3 := fun H1 H2 v => ∃ t p, v = .ref t ∧ H1 t = none ∧ H2 t = some (.tup [.int (detL n f), .ref p]) ∧ OLI H1 H2 p (stepsOf n f)
def sp_kept (K : Frag) (CF : Addr) : Sp := fun vs H Q E => ∃ a M, vs = [.ref a] ∧ LLI K H a M ∧ SmallM M ∧ (¬ IsForm M → ∀ H', Ex H H' → E (.ref CF) none H') ∧ (∀ n f, M = Fm n f → FormOf n f → ∀ H' v, Ex H H' → RKept n f H H' v → Q v H')
theorem mon_RKept {n : Nat} {f : Nat → Nat → Int} : Mon (RKept n f) := ⟨fun e ⟨t, p, h, h0, h1, h2⟩ => ⟨t, p, h, h0, e _ _ h1, h2.mono e⟩, fun e ⟨t, p, h, h0, h1, h2⟩ => ⟨t, p, h, fresh_back e h0, h1, h2.back e⟩⟩
theorem detL_fm {n : Nat} {f g : Nat → Nat → Int} (h : Fm n f = Fm n g) : detL n f = detL n g := by
  obtain ⟨_, e⟩ := fm_inj h
  exact detL_congr e
section
variable {P : Program} {w : World} {K : Frag} {mg : Str → Option Value} {base : Heap} {k : Nat}
theorem ok_step_of (T : Txt K mg) : FnOk P w K mg base CX0 (k + 1) T.f_step_of T.d_step_of ["row"] (sp_step_of K) := by
  refine T.F_step_of.ok sc_step_of (fun vs H Q E h => ?_) (fun cdv A outer s H vs Q E hr h => ?_)
  · obtain ⟨a, xs, rfl, _⟩ := h
    rfl
  · obtain ⟨a, xs, rfl, hL, hl, q⟩ := h
    refine ⟨_, (pss_cons (ps_set (i := 1) sc_step_of.nd rfl (.inl rfl) pe_int)
      (pss_cons (ps_for PassesOwn.never rfl (pi_listK K (pv 0)) (pg_name (i := 2) sc_step_of.nd rfl (.inl rfl))
        (pss_cons (ps_set (i := 3) sc_step_of.nd rfl (.inl rfl) (pe_callB absK rfl T.b_abs (by decide +kernel) (pa_cons (pv 2) pa_nil)))
      (pss_one (ps_while PassesOwn.never (pt_cmpR op_gt (pv 3) pe_int (nomark _))
        (pss_cons (ps_set (i := 4) sc_step_of.nd rfl (.inl rfl) (pe_op op_modN (pv 1) (pv 3)))
      (pss_cons (ps_set (i := 1) sc_step_of.nd rfl (.inl rfl) (pv 3))
      (pss_one (ps_set (i := 3) sc_step_of.nd rfl (.inl rfl) (pv 4)))))))))
      (pss_one (ps_ret (pv 1))))), ?_⟩
    refine q_asg ev_c fun H1 e1 => ?_
    refine q_forLn (a := a) (xs := xs.map V.int) (ev_var rfl) (hL.mono e1) (fun i σ' H' => ∃ x2 x3 x4, σ' = [some (.ref a), some (.int ((gcdL (xs.take i) : Nat) : Int)), x2, x3, x4] ∧ Ex H1 H')
      (fun H2 e2 => ⟨_, _, _, rfl, e2⟩) (fun i σ' H' _ hP => by obtain ⟨_, _, _, rfl, e⟩ := hP; exact hL.mono (e1.trans e)) (fun i x σ' H' hx hP => ?_) (fun σ' H' hP => ?_)
    · obtain ⟨x2, x3, x4, rfl, e⟩ := hP
      rw [List.getElem?_map] at hx
      cases hy : xs[i]? with
      | none => rw [hy] at hx; cases hx
      | some y =>
        rw [hy] at hx
        cases hx
        have hg : gcdL (xs.take (i + 1)) = Nat.gcd (gcdL (xs.take i)) y.natAbs := by
          unfold gcdL
          rw [List.take_add_one, hy, List.foldl_append]
          rfl
        refine q_asg (ev_abs (ev_var rfl)) fun H2 e2 => ?_
        rw [show (if y < 0 then -y else y) = ((y.natAbs : Nat) : Int) by split <;> omega]
        refine s_while (fun m σ2 H2 => ∃ g o x4, o = m ∧ σ2 = [some (.ref a), some (.int ((g : Nat) : Int)), some (.int y), some (.int ((o : Nat) : Int)), x4] ∧ Ex H1 H2 ∧ Nat.gcd g o = gcdL (xs.take (i + 1))) y.natAbs
          ⟨_, _, _, rfl, rfl, e.trans e2, hg.symm⟩ fun m σ2 H3 hW => ?_
        obtain ⟨g, o, x4, rfl, rfl, e3, hgo⟩ := hW
        refine ⟨_, et_test (ev_op (ev_var rfl) ev_c rv_I0), fun hb H4 e4 => ?_, fun hb H4 e4 => ?_⟩
        · rw [decide_eq_true_eq] at hb
          have ho : 0 < o := by omega
          refine ⟨fun σ2 H2 => ∃ g' o' x4, o' = g % o ∧ σ2 = [some (.ref a), some (.int ((g' : Nat) : Int)), some (.int y), some (.int ((o' : Nat) : Int)), x4] ∧ Ex H1 H2 ∧ Nat.gcd g' o' = gcdL (xs.take (i + 1)), fun σ2 H2 h => ⟨g % o, Nat.mod_lt _ ho, h⟩, ?_⟩
          refine q_asg (ev_mod (ev_var rfl) (ev_var rfl) (by omega)) fun H5 e5 => q_asg (ev_var rfl) fun H6 e6 => s_asg (ev_var rfl) fun H7 e7 => ?_
          refine ⟨o, g % o, _, rfl, by rw [Int.natCast_emod]; rfl, ((e3.trans e4).trans e5).trans (e6.trans e7), ?_⟩
          rw [← hgo, Nat.gcd_comm g o, Nat.gcd_rec o g, Nat.gcd_comm]
        · rw [decide_eq_false_iff_not] at hb
          have ho : o = 0 := by omega
          subst ho
          rw [Nat.gcd_zero_right] at hgo
          rw [← hgo]
          exact ⟨_, _, _, rfl, e3.trans e4⟩
    · obtain ⟨x2, x3, x4, rfl, e⟩ := hP
      refine s_ret (ev_var rfl) fun H2 e2 => ?_
      rw [List.length_map, List.take_length]
      exact q H2 ((e1.trans e).trans e2)
theorem ok_kept (T : Txt K mg) (G_must_form : FnOk P w K mg base (L2.CX P w) k T.f_must_form T.d_must_form ["form"] (sp_must_form K T.c_NoForm)) (G_determinant : FnOk P w K mg base CX0 k T.f_determinant T.d_determinant ["form"] (sp_determinant K))
    (G_step_of : FnOk P w K mg base CX0 k T.f_step_of T.d_step_of ["row"] (sp_step_of K)) : FnOk P w K mg base (L2.CX P w) (k + 1) T.f_kept T.d_kept ["form"] (sp_kept K T.c_NoForm) := by
  refine T.F_kept.okX sc_kept (fun vs H Q E h => ?_) (fun cdv A outer s H vs Q E hr h => ?_)
  · obtain ⟨a, M, rfl, _⟩ := h
    rfl
  · obtain ⟨a, M, rfl, hM, hs, q1, q2⟩ := h
    refine ⟨_, (pss_cons (ps_expr (pe_call G_must_form hr rfl T.m_must_form T.F_must_form.kp T.b_must_form .nil (passes_call (takes_of rfl rfl rfl rfl) (fun _ _ _ _ h => h)) (pa_cons (pv 0) pa_nil)))
      (pss_one (ps_ret (pe_tup (pa_cons (pe_call G_determinant hr rfl T.m_determinant T.F_determinant.kp T.b_determinant .nil pass0 (pa_cons (pv 0) pa_nil)) (pa_cons (pe_lc (own := [("row", 1)]) rfl sc_kept.nd (pi_listK K (pv 0)) (blkOk_by (own := [("row", 1)]) (N := N_kept) (sc := defScope s_kept) (by decide +kernel)) (fun _ _ _ _ _ => (pg_name (i := 1) sc_kept.nd rfl (.inl rfl))) (fun _ _ _ _ _ => pts_nil) (fun _ _ _ _ _ => (pe_call G_step_of hr rfl T.m_step_of T.F_step_of.kp T.b_step_of .nil pass0 (pa_cons (pv 1) pa_nil)))) pa_nil)))))), ?_⟩
    refine ⟨.ref a, rfl, a, M, rfl, hM, hs, fun H1 e1 => ⟨fun hF => ?_, fun hF => q1 hF H1 e1⟩⟩
    obtain ⟨n, f, rfl, hf⟩ := hF
    have hn1 := hf.1
    have hn6 := hf.2.1
    have hM1 := hM.mono e1
    have hd : Ev (tCall (sp_determinant K) [] E0 (tCons (tVar 0) tNil)) [some (V.ref a), none] H1 (.int (detL n f)) := ev_call (ea_cons (ev_var rfl) ea_nil) fun G1 g1 Q' q' E' => ⟨a, n, f, rfl, hM1.mono g1, hn1, hn6, fun i j hi hj => (hf.bits).2.2 i j hi hj, q'⟩
    have hc : EvL (tLc (iList K (tVar 0)) (gName 1) tYes (tCall (sp_step_of K) [] E0 (tCons (tVar 1) tNil)) [1]) [some (V.ref a), none] H1 ((stepsOf n f).map V.int) :=
      el_lcRows (fun r => ((gcdL r : Nat) : Int)) (ev_var rfl) hM1 (by rw [fm_len]; omega) (fun _ => rfl) fun x r G1 g1 hr hx => ev_call (ea_cons (ev_var (v := .ref x) rfl) ea_nil) fun G2 g2 Q' q' E' => ⟨x, r, rfl, hx.mono g2, (small_fm (n := n) (f := f) (by omega)).2 r hr, q'⟩
    refine hd H1 (Ex.refl _) _ fun H2 e2 => hc H2 e2 _ fun p H3 hp e3 hp3 => ⟨by show 2 ≤ sizeLine; decide, fun t ht => ?_⟩
    refine q2 n f rfl hf _ _ (((e1.trans e2).trans e3).trans (Ex.new ht)) ⟨t, p, rfl, fresh_back ((e1.trans e2).trans e3) ht, upd_same, fresh_back (e1.trans e2) hp, (Ex.new ht) _ _ hp3⟩
end
end AT

/-! ## the law's own sum and steps -/
namespace AT
open PySem PySem.Spec PyProof.Rows L2 Evl
def sp__law_sum (K : Frag) : Sp := fun vs H Q _ => ∃ a n f, vs = [.ref a] ∧ LLI K H a (Fm n f) ∧ n ≤ 6 ∧ (∀ i j, i < n → j < n → (f i j).natAbs < 2 ^ 7) ∧ ∀ H', Ex H H' → Q (.int (detL n f)) H'
def sp__law_step (K : Frag) : Sp := fun vs H Q _ => ∃ (a : Addr) (xs : List Int), vs = [.ref a] ∧ LI K H a xs ∧ xs ≠ [] ∧ xs.length ≤ 1000 ∧ (∀ x, x ∈ xs → x.natAbs ≤ 1000) ∧ ∀ H', Ex H H' → Q (.int ((gcdL xs : Nat) : Int)) H'
def sp__law_whole : Sp := fun vs H Q _ => ∃ i, vs = [.int i] ∧ ∀ H', Ex H H' → Q (.bl true) H'
theorem sumL_snoc (l : List Int) (x : Int) : sumL (l ++ [x]) = sumL l + x := by
  induction l with
  | nil => simp [sumL]
  | cons y l ih =>
    show y + sumL (l ++ [x]) = y + sumL l + x
    rw [ih]; omega
theorem prodL_snoc (l : List Int) (x : Int) : prodL (l ++ [x]) = prodL l * x := by
  induction l with
  | nil => simp [prodL]
  | cons y l ih =>
    show y * prodL (l ++ [x]) = y * prodL l * x
    rw [ih, Int.mul_assoc]
theorem prN_back (n : Nat) (h : Nat → Int) : prN (n + 1) h = prN n h * h n := by
  unfold prN
  rw [List.range_succ, List.map_append]
  exact prodL_snoc _ _
theorem foldl_gcd_dvd : ∀ (xs : List Int) (g : Nat), xs.foldl (fun g x => Nat.gcd g x.natAbs) g ∣ g ∧ ∀ x ∈ xs, xs.foldl (fun g x => Nat.gcd g x.natAbs) g ∣ x.natAbs
  | [], g => ⟨Nat.dvd_refl _, fun x h => by cases h⟩
  | y :: xs, g => by
    obtain ⟨h1, h2⟩ := foldl_gcd_dvd xs (Nat.gcd g y.natAbs)
    refine ⟨Nat.dvd_trans h1 (Nat.gcd_dvd_left _ _), fun x hx => ?_⟩
    rcases List.mem_cons.mp hx with rfl | hx
    · exact Nat.dvd_trans h1 (Nat.gcd_dvd_right _ _)
    · exact h2 x hx
theorem dvd_foldl_gcd {d : Nat} : ∀ (xs : List Int) (g : Nat), d ∣ g → (∀ x ∈ xs, d ∣ x.natAbs) → d ∣ xs.foldl (fun g x => Nat.gcd g x.natAbs) g
  | [], g, h, _ => h
  | y :: xs, g, h, h2 => dvd_foldl_gcd xs _ (Nat.dvd_gcd h (h2 y List.mem_cons_self)) fun x hx => h2 x (List.mem_cons_of_mem _ hx)
theorem gcdL_dvd {xs : List Int} {x : Int} (h : x ∈ xs) : gcdL xs ∣ x.natAbs := (foldl_gcd_dvd xs 0).2 x h
theorem dvd_gcdL {xs : List Int} {d : Nat} (h : ∀ x ∈ xs, d ∣ x.natAbs) : d ∣ gcdL xs := dvd_foldl_gcd xs 0 (Nat.dvd_zero d) h
section
variable {P : Program} {w : World} {K : Frag} {mg : Str → Option Value} {base : Heap} {k : Nat}
theorem q_forN {σ : St} {H : Hp} {D : Ends} {n : Nat} {tn : TE} {g : TG} {tu tz : TS} (hn : Ev tn σ H (.int (n : Int))) (h6 : n ≤ 6)
    (kk : ∀ H1, Ex H H1 → ∃ Pv : Nat → St → Hp → Prop, (∀ H2, Ex H1 H2 → Pv 0 σ H2) ∧ (∀ i σ' H', Pv i σ' H' → Ex H1 H') ∧
      (∀ i c ps σ' H', (allAt n n)[i]? = some ps → Names n ps → (∀ H2, Ex H' H2 → LI K H2 c (nI ps)) → Pv i σ' H' → g (.ref c) σ' H' fun σ2 H2 => tu { D with nx := Pv (i + 1), ct := Pv (i + 1), bk := tz D } σ2 H2) ∧
      (∀ σ' H', Pv (allAt n n).length σ' H' → tz D σ' H')) :
    tSeq (tFor (iList K (tCall sp__law_all_names [] E0 (tCons tn tNil))) g tu) tz D σ H := by
  refine sp_names_er hn h6 H (Ex.refl _) _ fun v H1 e1 ⟨p, hv, hp, as, hA, hAP⟩ => ?_
  subst hv
  obtain ⟨Pv, h0, hx, hs, hd⟩ := kk H1 e1
  have hal : as.length = (allAt n n).length := by rw [hAP.length, List.length_map]
  refine ⟨p, rfl, ⟨_, sq_of hA⟩, for_list (xs := as.map V.ref) Pv (h0 H1 (Ex.refl _)) (fun i σ' H' _ hP => sq_of (hx i σ' H' hP _ _ hA)) (fun i x σ' H' hxi hP => ?_) (fun σ' H' hP => hd σ' H' (by rw [List.length_map, hal] at hP; exact hP))⟩
  rw [List.getElem?_map] at hxi
  cases hax : as[i]? with
  | none => rw [hax] at hxi; cases hxi
  | some c =>
    rw [hax] at hxi
    cases hxi
    obtain ⟨r, hr1, hr2⟩ := paired_getL hAP hax
    rw [List.getElem?_map] at hr1
    cases hps : (allAt n n)[i]? with
    | none => rw [hps] at hr1; cases hr1
    | some ps =>
      rw [hps] at hr1
      cases hr1
      exact hs i c ps σ' H' hps (names_allAt (List.mem_of_getElem? hps)) (fun H2 e2 => sq_of ((hx i σ' H' hP).trans e2 _ _ hr2)) hP
theorem prN_bd {n i : Nat} {f : Nat → Nat → Int} {ps : List Nat} (hb : ∀ i j, i < n → j < n → (f i j).natAbs < 2 ^ 7) (h : Names n ps) (hi : i ≤ n) : (prN i fun k => f k (ps.getD k 0)).natAbs < 2 ^ (7 * i + 1) := by
  induction i with
  | zero =>
    show (1 : Int).natAbs < 2 ^ 1
    decide
  | succ i ih =>
    rw [prN_back, Int.natAbs_mul]
    have h1 := nat_mul_lt (ih (by omega)) (hb i (ps.getD i 0) (by omega) (names_getD h (by omega)).1)
    rw [show 7 * (i + 1) + 1 = 7 * i + 1 + 7 by omega]
    exact h1
theorem s_forDown {σ : St} {H : Hp} {D : Ends} {ta : TA} {j : Nat} {tu : TS} {top : Nat} (h : EvA ta σ H [.int (top : Int), .int 0, .int (-1)]) (ht : top ≤ 100000) (Pv : Nat → St → Hp → Prop) (h0 : ∀ H1, Ex H H1 → Pv 0 σ H1)
    (hs : ∀ (i : Nat) σ' H', i < top → Pv i σ' H' → tu { D with nx := Pv (i + 1), ct := Pv (i + 1), bk := D.nx } (σ'.set j (some (.int ((top - i : Nat) : Int)))) H') (hd : ∀ σ' H', Pv top σ' H' → D.nx σ' H') : tFor (iRng3 ta) (gName j) tu D σ H :=
  h H (Ex.refl H) _ fun H1 e => ⟨(top : Int), 0, -1, top, rfl, by have := RgC.neg (i := (top : Int)) (j := 0) (by omega) (by omega) (by omega) (by omega); simpa using this,
    for_it (walk_rangeC (lo := (top : Int)) (c := -1) (n := top)) Pv (h0 H1 e) (fun _ _ _ _ _ => trivial) (fun i x σ' H' H'' hi p hy => by
      obtain ⟨rfl, rfl⟩ := hy
      have e0 : (top : Int) + (i : Int) * -1 = ((top - i : Nat) : Int) := by omega
      show tu _ (σ'.set j (some (.int ((top : Int) + (i : Nat) * -1)))) _
      rw [e0]
      exact hs i σ' _ hi p) hd⟩
theorem q_forDown {σ : St} {H : Hp} {D : Ends} {ta : TA} {j : Nat} {tu tz : TS} {top : Nat} (h : EvA ta σ H [.int (top : Int), .int 0, .int (-1)]) (ht : top ≤ 100000) (Pv : Nat → St → Hp → Prop) (h0 : ∀ H1, Ex H H1 → Pv 0 σ H1)
    (hs : ∀ (i : Nat) σ' H', i < top → Pv i σ' H' → tu { D with nx := Pv (i + 1), ct := Pv (i + 1), bk := tz D } (σ'.set j (some (.int ((top - i : Nat) : Int)))) H') (hd : ∀ σ' H', Pv top σ' H' → tz D σ' H') : tSeq (tFor (iRng3 ta) (gName j) tu) tz D σ H :=
  s_forDown (D := { D with nx := tz D }) h ht Pv h0 hs hd
end
end AT

/-! ## kept: its promise at a form -/
namespace AT
open PySem PySem.Spec PyProof.Rows L2 Evl
section
variable {K : Frag} {H : Hp} {σ : St} {C a : Addr} {n : Nat} {f : Nat → Nat → Int} {t1 : TE} {E : XK}
theorem stepsOf_congr {n : Nat} {f g : Nat → Nat → Int} (h : Fm n f = Fm n g) : stepsOf n f = stepsOf n g := by
  unfold stepsOf
  rw [h]
theorem stepsOf_len : (stepsOf n f).length = n := by
  unfold stepsOf
  rw [List.length_map, fm_len]
theorem spr_kept (hf : FormOf n f) (hM : LLI K H a (Fm n f)) : SpR (sp_kept K C) [.ref a] H (RKept n f) := fun H1 e1 Q q E =>
  ⟨a, _, rfl, hM.mono e1, small_fm (by have := hf.2.1; omega), fun z => absurd (fmI hf) z, fun n' f' e hf' H2 v e2 hv => by
    obtain ⟨rfl, ee⟩ := fm_inj e
    refine q v H2 e2 ?_
    unfold RKept at hv ⊢
    rw [detL_fm e, stepsOf_congr e]
    exact hv⟩
theorem er_keptR (hf : FormOf n f) (h1 : Er t1 σ H (RM (Fm n f))) : Er (tCall (sp_kept K C) [] E (tCons t1 tNil)) σ H (RKept n f) :=
  er_callR1 mon_RKept h1 ea_nil fun v1 G1 G2 G3 g1 g2 g3 ⟨c, hc, hOc⟩ => by
    subst hc
    exact spr_kept hf (hOc.lli.mono g3)
theorem ev_isTup {vs : List V} {p : Addr} {ta : TE} (ha : Ev ta σ H (.ref p)) (h : H p = some (.tup vs)) : Ev (tCB (rIsi K) (tCons ta (tCons (tC (.ty "tuple")) tNil))) σ H (.bl true) := ev_isi (u := .none) (w := .none) (n := "tuple") ha (fun H1 e => .base (.tup (e _ _ h))) (kit_ty (by decide +kernel))
theorem ev_lenT {vs : List V} {p : Addr} {ta : TE} (ha : Ev ta σ H (.ref p)) (h : H p = some (.tup vs)) : Ev (tCB (rLenS K) (tCons ta tNil)) σ H (.int (vs.length : Int)) := fun H1 e Q q =>
  ha H1 e _ fun H2 e2 => ⟨p, vs, rfl, .inr (st_of ((e.trans e2) _ _ h)), q H2 e2⟩
theorem ev_ixT {vs : List V} {p : Addr} {ta tb : TE} {i : Nat} {v : V} (ha : Ev ta σ H (.ref p)) (hb : Ev tb σ H (.int (i : Int))) (h : H p = some (.tup vs)) (hv : vs[i]? = some v) : Ev (tOp (rIxT K) ta tb) σ H v := ev_op ha hb (rv_ixT (st_of h) (atI_n hv))
end
end AT

/-! ## what no turn changes -/
namespace AT
open PySem
def invOk (n : Nat) : Bool := (allAt n n).all fun ps => invF (invN n ps) % 2 == invF ps % 2
theorem invOk6 : (invOk 0 && invOk 1 && invOk 2 && invOk 3 && invOk 4 && invOk 5 && invOk 6) = true := by decide +kernel
theorem sgn_inv {n : Nat} {ps : List Nat} (h6 : n ≤ 6) (h : Names n ps) : sgn (invN n ps) = sgn ps := by
  have h0 := invOk6
  simp only [Bool.and_eq_true] at h0
  have hn : invOk n = true := by
    rcases (show n = 0 ∨ n = 1 ∨ n = 2 ∨ n = 3 ∨ n = 4 ∨ n = 5 ∨ n = 6 by omega) with rfl | rfl | rfl | rfl | rfl | rfl | rfl
    · exact h0.1.1.1.1.1.1
    · exact h0.1.1.1.1.1.2
    · exact h0.1.1.1.1.2
    · exact h0.1.1.1.2
    · exact h0.1.1.2
    · exact h0.1.2
    · exact h0.2
  have := List.all_eq_true.mp hn ps (mem_allAt_iff.mpr h)
  unfold sgn
  rw [invs_eq, invs_eq, beq_iff_eq.mp this]
theorem names_ext {n : Nat} {ps qs : List Nat} (h : Names n ps) (h2 : Names n qs) (e : ∀ t, t < n → ps.getD t 0 = qs.getD t 0) : ps = qs := by
  rw [list_eq_range 0 ps, list_eq_range 0 qs, h.len, h2.len]
  exact List.map_congr_left fun t ht => e t (List.mem_range.mp ht)
theorem inv_inj {n : Nat} {ps qs : List Nat} (h : Names n ps) (h2 : Names n qs) (e : invN n ps = invN n qs) : ps = qs := names_ext h h2 fun t ht => by
  have hp := names_getD h ht
  have e1 : ps.idxOf (ps.getD t 0) = qs.idxOf (ps.getD t 0) := by rw [← invN_getD (ps := ps) hp.1, e, invN_getD hp.1]
  rw [hp.2] at e1
  have := names_at_ix h2 hp.1
  rw [← e1] at this
  exact this.symm
theorem detL_tr {n : Nat} {A : Nat → Nat → Int} (h6 : n ≤ 6) : detL n (fun i j => A j i) = detL n A := by
  have e : detL n (fun i j => A j i) = sumL ((allAt n n).map fun ps => term n A (invN n ps)) := by
    refine sumL_congr fun ps hps => ?_
    have hps := names_allAt hps
    unfold term
    rw [sgn_inv h6 hps]
    refine congrArg _ ?_
    have e1 : prN n (fun k => A k ((invN n ps).getD k 0)) = prodL (ps.map fun k => A k ((invN n ps).getD k 0)) := (prN_perm hps).symm
    have e2 : ∀ g : Nat → Int, ps.map g = (List.range n).map fun i => g (ps.getD i 0) := fun g => by
      conv => lhs; rw [list_eq_range 0 ps, hps.len]
      rw [List.map_map]
      rfl
    rw [e1, e2]
    refine congrArg prodL (List.map_congr_left fun i hi => ?_)
    have hi := List.mem_range.mp hi
    have hp := names_getD hps hi
    show A (ps.getD i 0) i = A (ps.getD i 0) ((invN n ps).getD (ps.getD i 0) 0)
    rw [invN_getD hp.1, hp.2]
  rw [e]
  exact sum_bij (term n A) (fun ps h => invN_names h) fun ps qs h h2 => inv_inj h h2
/-- a multiple of row k to each other one, row k the other way -/
theorem detL_rows {n k : Nat} {A : Nat → Nat → Int} (c : Nat → Int) (hk : k < n) : detL n (fun i j => if i = k then 0 - A k j else A i j + c i * A k j) = 0 - detL n A := by
  have h1 : ∀ t, t ≤ n → detL n (fun i j => if i < t ∧ i ≠ k then A i j + c i * A k j else A i j) = detL n A := fun t => by
    induction t with
    | zero => exact fun _ => detL_congr fun i j _ _ => by rw [if_neg (by omega)]
    | succ t ih =>
      intro ht
      rw [← ih (by omega)]
      by_cases e : t = k
      · exact detL_congr fun i j _ _ => by
          by_cases h : i < t ∧ i ≠ k
          · rw [if_pos h, if_pos (by omega)]
          · rw [if_neg h, if_neg (by omega)]
      · have h2 := detL_op (n := n) (p := t) (q := k) (A := fun i j => if i < t ∧ i ≠ k then A i j + c i * A k j else A i j) (a := 1) (b := c t) (by omega) hk e
        rw [Int.one_mul] at h2
        rw [← h2]
        refine detL_congr fun i j _ _ => ?_
        unfold setR
        by_cases e1 : i = t
        · subst e1
          rw [if_pos (by omega), if_pos rfl]
          dsimp only
          rw [if_neg (by omega), if_neg (by omega)]
          omega
        · rw [if_neg e1]
          dsimp only
          by_cases h : i < t ∧ i ≠ k
          · rw [if_pos h, if_pos (by omega)]
          · rw [if_neg h, if_neg (by omega)]
  have h3 := h1 n (Nat.le_refl n)
  generalize hB : (fun i j => if i < n ∧ i ≠ k then A i j + c i * A k j else A i j) = B at h3
  have hBk : ∀ j, B k j = A k j := fun j => by rw [← hB]; dsimp only; rw [if_neg (by omega)]
  have h4 := detL_lin (n := n) (i := k) (A := B) (r := B k) (s := B k) (a := -1) (b := 0) hk
  rw [setR_self] at h4
  have e : detL n (fun i j => if i = k then 0 - A k j else A i j + c i * A k j) = detL n (setR B k fun j => -1 * B k j + 0 * B k j) := detL_congr fun i j hi _ => by
    unfold setR
    by_cases e1 : i = k
    · rw [if_pos e1, if_pos e1]
      dsimp only
      rw [hBk]
      omega
    · rw [if_neg e1, if_neg e1, ← hB]
      dsimp only
      rw [if_pos ⟨hi, e1⟩]
  rw [e, h4]
  omega
def pos (a : Int) : Int := if 0 < a then a else 0
theorem thr_pos (a b : Int) : thr a b = a * pos b + pos (0 - a) * b := by
  unfold thr pos
  by_cases h1 : 0 < a
  · by_cases h2 : 0 < b
    · rw [if_pos ⟨h1, h2⟩, if_pos h2, if_neg (by omega)]
      omega
    · rw [if_neg (by omega), if_neg (by omega), if_neg h2, if_neg (by omega)]
      omega
  · by_cases h2 : a < 0
    · by_cases h3 : 0 < b
      · rw [if_neg (by omega), if_neg (by omega), if_pos h3, if_pos (by omega)]
        grind
      · by_cases h4 : b < 0
        · rw [if_neg (by omega), if_pos ⟨h2, h4⟩, if_neg h3, if_pos (by omega)]
          grind
        · have : b = 0 := by omega
          subst this
          rw [if_neg (by omega), if_neg (by omega), if_neg (by omega), if_pos (by omega)]
          omega
    · have : a = 0 := by omega
      subst this
      rw [if_neg (by omega), if_neg (by omega), if_neg (show ¬ (0 : Int) < 0 - 0 by omega)]
      omega
theorem skew_zero {n k : Nat} {f : Nat → Nat → Int} (hs : Skew n f) (hk : k < n) : f k k = 0 := by
  have := hs k k hk hk
  omega
theorem detL_turn {n k : Nat} {f : Nat → Nat → Int} (h6 : n ≤ 6) (hs : Skew n f) (hk : k < n) : detL n (turnF f k) = detL n f := by
  have h0 := skew_zero hs hk
  have h1 := detL_rows (A := f) (fun i => pos (0 - f i k)) hk
  generalize hB : (fun i j => if i = k then 0 - f k j else f i j + pos (0 - f i k) * f k j) = B at h1
  have h2 := detL_rows (A := fun i j => B j i) (fun j => pos (f k j)) hk
  have hBt := detL_tr h6 (A := B)
  rw [hBt] at h2
  have e : detL n (turnF f k) = detL n fun i j => (fun i j => if i = k then 0 - (fun i j => B j i) k j else (fun i j => B j i) i j + pos (f k i) * (fun i j => B j i) k j) j i := detL_congr fun i j _ _ => by
    unfold turnF
    rw [← hB]
    dsimp only
    by_cases e1 : i = k
    · subst e1
      by_cases e2 : j = i
      · subst e2
        rw [if_pos (.inl rfl), if_pos rfl, if_pos rfl, h0]
        rfl
      · rw [if_pos (.inl rfl), if_neg e2, if_pos rfl, if_pos rfl, h0]
        omega
    · by_cases e2 : j = k
      · subst e2
        rw [if_pos (.inr rfl), if_pos rfl, if_neg e1, h0]
        omega
      · rw [if_neg (by omega), if_neg e2, if_neg e1, if_neg e1, thr_pos, h0]
        grind
  rw [e, detL_tr h6 (A := fun i j => if i = k then 0 - (fun i j => B j i) k j else (fun i j => B j i) i j + pos (f k i) * (fun i j => B j i) k j), h2, h1]
  omega
theorem detL_odd {n : Nat} {f : Nat → Nat → Int} (h6 : n ≤ 6) (hs : Skew n f) (ho : n % 2 = 1) : detL n f = 0 := by
  have h1 : detL n (fun i j => f j i) = detL n fun i j => (-1) * f i j := detL_congr fun i j hi hj => by have := hs i j hi hj; omega
  rw [detL_tr h6, detL_scale] at h1
  have : ((-1 : Int)) ^ n = -1 := by
    rcases (show n = 1 ∨ n = 3 ∨ n = 5 by omega) with rfl | rfl | rfl <;> decide
  rw [this] at h1
  omega
/-! ### renamed -/
theorem asc_or : ∀ l : List Nat, (∃ t, t + 1 < l.length ∧ l.getD (t + 1) 0 < l.getD t 0) ∨ l.Pairwise (· ≤ ·)
  | [] => .inr .nil
  | [x] => .inr (List.pairwise_singleton _ _)
  | x :: y :: r => by
    by_cases h : y < x
    · exact .inl ⟨0, by simp, h⟩
    · rcases asc_or (y :: r) with ⟨t, h1, h2⟩ | h1
      · exact .inl ⟨t + 1, by simpa using h1, h2⟩
      · refine .inr (List.pairwise_cons.mpr ⟨fun z hz => ?_, h1⟩)
        rcases List.mem_cons.mp hz with rfl | hz
        · omega
        · have := (List.pairwise_cons.mp h1).1 z hz
          omega
theorem invF_desc : ∀ (i : Nat) (l : List Nat), i + 1 < l.length → l.getD (i + 1) 0 < l.getD i 0 → invF l = invF (adj i l) + 1
  | 0, [], h, _ => by simp at h
  | 0, [_], h, _ => by simp at h
  | 0, a :: b :: r, _, h => by
    have h2 : b < a := h
    have h3 : ¬ a < b := by omega
    simp only [adj, invF, List.filter_cons]
    simp only [h2, h3, decide_true, decide_false, if_true, List.length_cons]
    simp
    omega
  | i + 1, [], h, _ => by simp at h
  | i + 1, x :: l, h, hd => by
    have ih := invF_desc i l (by simpa using h) (by simpa using hd)
    have hc := ((adj_perm i l).filter fun y => decide (y < x)).length_eq
    simp only [adj, invF, hc]
    omega
theorem swp_swp (i k : Nat) : swp i (swp i k) = k := by
  unfold swp
  by_cases h1 : k = i
  · rw [if_pos h1, if_neg (by omega), if_pos rfl, h1]
  · by_cases h2 : k = i + 1
    · rw [if_neg h1, if_pos h2, if_pos rfl, h2]
    · rw [if_neg h1, if_neg h2, if_neg h1, if_neg h2]
theorem swp_lt {n i k : Nat} (h : i + 1 < n) (hk : k < n) : swp i k < n := by
  unfold swp
  split
  · omega
  · split <;> omega
theorem adj_ix {n t i : Nat} {ps : List Nat} (h : Names n ps) (ht : t + 1 < n) (hi : i < n) : (adj t ps).idxOf i = swp t (ps.idxOf i) := by
  have hn : Names n (adj t ps) := (adj_perm t ps).trans h
  have hx := h.ix hi
  have e : (adj t ps).getD (swp t (ps.idxOf i)) 0 = i := by rw [adj_getD _ _ _ (by rw [h.len]; exact ht), swp_swp, names_at_ix h hi]
  have := (names_getD hn (swp_lt ht hx)).2
  rw [e] at this
  exact this
theorem detL_adj2 {n t : Nat} {A : Nat → Nat → Int} (h6 : n ≤ 6) (h : t + 1 < n) : detL n (fun i j => A (swp t i) (swp t j)) = detL n A := by
  have h1 := detL_adj (n := n) (i := t) (A := fun i j => A i (swp t j)) h
  have h2 := detL_adj (n := n) (i := t) (A := fun i j => A j i) h
  have hAt := detL_tr h6 (A := A)
  rw [hAt] at h2
  have h3 : detL n (fun i j => A i (swp t j)) = detL n (fun k j => (fun i j => A j i) (swp t k) j) := (detL_tr h6 (A := fun i j => A i (swp t j))).symm
  rw [h3, h2] at h1
  have h4 : detL n (fun i j => A (swp t i) (swp t j)) = detL n (fun k j => (fun i j => A i (swp t j)) (swp t k) j) := rfl
  rw [h4, h1]
  omega
theorem detL_ren : ∀ (m : Nat) {n : Nat} {f : Nat → Nat → Int} {ps : List Nat}, n ≤ 6 → Names n ps → invF ps = m → detL n (renF f ps) = detL n f
  | m, n, f, ps, h6, h, hm => by
    rcases asc_or ps with ⟨t, h1, h2⟩ | hs
    · have hd := invF_desc t ps h1 h2
      rw [h.len] at h1
      have hq : Names n (adj t ps) := (adj_perm t ps).trans h
      cases m with
      | zero => omega
      | succ m =>
        have ih := detL_ren m (n := n) (f := fun i j => f (swp t i) (swp t j)) (ps := adj t ps) h6 hq (by omega)
        rw [detL_adj2 h6 h1] at ih
        rw [← ih]
        refine detL_congr fun i j hi hj => ?_
        show f (ps.idxOf i) (ps.idxOf j) = f (swp t ((adj t ps).idxOf i)) (swp t ((adj t ps).idxOf j))
        rw [adj_ix h h1 hi, adj_ix h h1 hj, swp_swp, swp_swp]
    · have e : decide (nI ps = nI (List.range n)) = dec (IsNames n (nI ps)) := sorted_range (List.Perm.refl _) (by
        unfold nI
        rw [List.pairwise_map]
        exact hs.imp fun h => by omega)
      rw [dec_true (isNames_iff.mpr ⟨ps, h, rfl⟩), decide_eq_true_eq] at e
      have e2 : ps = List.range n := (List.map_inj_right (f := fun x : Nat => (x : Int)) fun a b h => by omega).mp e
      refine detL_congr fun i j hi hj => ?_
      have hx : ∀ i, i < n → ps.idxOf i = i := fun i hi => by
        have := (names_getD h hi).2
        have e3 : ps.getD i 0 = i := by rw [e2, List.getD_eq_getElem?_getD, List.getElem?_range hi]; rfl
        rw [e3] at this
        exact this
      show f (ps.idxOf i) (ps.idxOf j) = f i j
      rw [hx i hi, hx j hj]
/-! ### the steps -/
theorem thr_dvd {g : Nat} {a : Int} (b : Int) (h : g ∣ a.natAbs) : (g : Int) ∣ thr a b := by
  have h1 : (g : Int) ∣ a := Int.natAbs_dvd_natAbs.mp (show (g : Int).natAbs ∣ a.natAbs from h)
  unfold thr
  split
  · exact Int.dvd_trans h1 (Int.dvd_mul_right a b)
  · split
    · rw [Int.zero_sub]
      exact Int.dvd_neg.mpr (Int.dvd_trans h1 (Int.dvd_mul_right a b))
    · exact Int.dvd_zero _
theorem natAbs_of {g : Nat} {a : Int} (h : (g : Int) ∣ a) : g ∣ a.natAbs := Int.natAbs_dvd_natAbs.mpr h
theorem of_natAbs {g : Nat} {a : Int} (h : g ∣ a.natAbs) : (g : Int) ∣ a := Int.natAbs_dvd_natAbs.mp (show (g : Int).natAbs ∣ a.natAbs from h)
theorem gcd_turn {n k i : Nat} {f : Nat → Nat → Int} (hk : k < n) (hi : i < n) : gcdL ((List.range n).map (turnF f k i)) = gcdL ((List.range n).map (f i)) := by
  have key : ∀ (f : Nat → Nat → Int) (g : Nat), (∀ j, j < n → g ∣ (f i j).natAbs) → ∀ j, j < n → g ∣ (turnF f k i j).natAbs := fun f g hg j hj => by
    unfold turnF
    split
    · have := hg j hj
      rw [Int.zero_sub, Int.natAbs_neg]
      exact this
    · refine natAbs_of (Int.dvd_add (of_natAbs (hg j hj)) (thr_dvd _ (hg k hk)))
  have mem : ∀ (f : Nat → Nat → Int) j, j < n → gcdL ((List.range n).map (f i)) ∣ (f i j).natAbs := fun f j hj => gcdL_dvd (List.mem_map.mpr ⟨j, List.mem_range.mpr hj, rfl⟩)
  refine Nat.dvd_antisymm (dvd_gcdL fun x hx => ?_) (dvd_gcdL fun x hx => ?_)
  · obtain ⟨j, hj, rfl⟩ := List.mem_map.mp hx
    have hj := List.mem_range.mp hj
    have h1 := key (turnF f k) _ (fun j hj => mem (turnF f k) j hj) j hj
    have h2 : turnF (turnF f k) k i j = f i j := (fm_inj (turnF_twice (f := f) hk)).2 i j hi hj
    rw [h2] at h1
    exact h1
  · obtain ⟨j, hj, rfl⟩ := List.mem_map.mp hx
    exact key f _ (fun j hj => mem f j hj) j (List.mem_range.mp hj)
theorem steps_turn {n k : Nat} {f : Nat → Nat → Int} (hk : k < n) : stepsOf n (turnF f k) = stepsOf n f := by
  unfold stepsOf Fm
  rw [List.map_map, List.map_map]
  refine List.map_congr_left fun i hi => ?_
  show ((gcdL ((List.range n).map (turnF f k i)) : Nat) : Int) = ((gcdL ((List.range n).map (f i)) : Nat) : Int)
  rw [gcd_turn hk (List.mem_range.mp hi)]
theorem gcd_ren {n i : Nat} {f : Nat → Nat → Int} {ps : List Nat} (h : Names n ps) (hi : i < n) : gcdL ((List.range n).map (renF f ps (ps.getD i 0))) = gcdL ((List.range n).map (f i)) := by
  have hp := names_getD h hi
  have e : ∀ j, renF f ps (ps.getD i 0) j = f i (ps.idxOf j) := fun j => by unfold renF; rw [hp.2]
  refine Nat.dvd_antisymm (dvd_gcdL fun x hx => ?_) (dvd_gcdL fun x hx => ?_)
  · obtain ⟨j, hj, rfl⟩ := List.mem_map.mp hx
    have hj := List.mem_range.mp hj
    have hq := names_getD h hj
    have := gcdL_dvd (xs := (List.range n).map (renF f ps (ps.getD i 0))) (List.mem_map.mpr ⟨ps.getD j 0, List.mem_range.mpr hq.1, rfl⟩)
    rw [e, hq.2] at this
    exact this
  · obtain ⟨j, hj, rfl⟩ := List.mem_map.mp hx
    rw [e]
    exact gcdL_dvd (List.mem_map.mpr ⟨ps.idxOf j, List.mem_range.mpr (h.ix (List.mem_range.mp hj)), rfl⟩)
end AT

/-! ## dicts whose keys are matrices: tuples of tuples of ints -/
namespace AT
open PySem PySem.Spec PyProof.Rows L2 Evl
abbrev Ent := Mat × Addr × Addr
def DDp (P : Program) (w : World) (d : Addr) (xs : List (NestedKey × Addr × Value)) (h : Heap) : Prop :=
  ∃ o es ep, h.get? d = some o ∧ o.ExactDict ∧ o.data = .dict es ep ∧ es.toList = xs.map (entryOfKey (nestedKind P w)) ∧ (xs.map (·.1)).Nodup
def DD (P : Program) (w : World) (d : Addr) (xs : List (NestedKey × Addr × Value)) : HO := .ext (DDp P w d xs)
def keyN (M : Mat) : NestedKey := .tup (M.map fun r => .tup (r.map NestedKey.num))
theorem num_inj : ∀ {xs ys : List Int}, xs.map NestedKey.num = ys.map NestedKey.num → xs = ys
  | [], [], _ => rfl
  | [], _ :: _, h => by simp at h
  | _ :: _, [], h => by simp at h
  | x :: xs, y :: ys, h => by
    rw [List.map_cons, List.map_cons] at h
    injection h with h1 h2
    injection h1 with h1
    rw [h1, num_inj h2]
theorem rows_inj : ∀ {M N : Mat}, (M.map fun r => NestedKey.tup (r.map NestedKey.num)) = (N.map fun r => NestedKey.tup (r.map NestedKey.num)) → M = N
  | [], [], _ => rfl
  | [], _ :: _, h => by simp at h
  | _ :: _, [], h => by simp at h
  | x :: xs, y :: ys, h => by
    rw [List.map_cons, List.map_cons] at h
    injection h with h1 h2
    injection h1 with h1
    rw [num_inj h1, rows_inj h2]
theorem keyN_inj {M N : Mat} : keyN M = keyN N ↔ M = N := ⟨fun h => by
  unfold keyN at h
  injection h with h
  exact rows_inj h, fun h => by rw [h]⟩
theorem depth_nums : ∀ r : List Int, NestedKey.depthAll (r.map NestedKey.num) = 0
  | [] => by simp [NestedKey.depthAll]
  | x :: r => by rw [List.map_cons, NestedKey.depthAll, NestedKey.depth, depth_nums r]; rfl
theorem depth_rowsN : ∀ M : Mat, NestedKey.depthAll (M.map fun r => .tup (r.map NestedKey.num)) ≤ 1
  | [] => by simp [NestedKey.depthAll]
  | r :: M => by
    have h := depth_rowsN M
    rw [List.map_cons, NestedKey.depthAll, NestedKey.depth, depth_nums]
    omega
theorem keyN_depth (M : Mat) : (keyN M).depth ≤ 8 := by
  unfold keyN
  rw [NestedKey.depth]
  have := depth_rowsN M
  omega
/-- a tuple of tuples of ints -/
def KT (H : Hp) (b : Addr) (M : Mat) : Prop := ∃ as : List Addr, H b = some (.tup (as.map V.ref)) ∧ Paired (fun x r => H x = some (.tup (r.map V.int))) as M
theorem KT.mono {H H1 : Hp} {b : Addr} {M : Mat} (e : Ex H H1) (h : KT H b M) : KT H1 b M := by
  obtain ⟨as, h1, h2⟩ := h
  exact ⟨as, e _ _ h1, paired_mono h2 fun _ _ z => e _ _ z⟩
theorem KT.keep {H H1 : Hp} {b : Addr} {M : Mat} (e : ∀ y vs, H y = some (.tup vs) → H1 y = some (.tup vs)) (h : KT H b M) : KT H1 b M := by
  obtain ⟨as, h1, h2⟩ := h
  exact ⟨as, e _ _ h1, paired_mono h2 fun _ _ z => e _ _ z⟩
def xsOf (es : List Ent) : List (NestedKey × Addr × Value) := es.map fun e => (keyN e.1, e.2.1, Value.ref e.2.2)
/-- the dict's entries: matrix, key, value -/
def DW (P : Program) (w : World) (H : Hp) (d : Addr) (es : List Ent) : Prop := H d = some (DD P w d (xsOf es)) ∧ (d == sysModules) = false ∧ ∀ e, e ∈ es → KT H e.2.1 e.1
theorem DW.mono {P : Program} {w : World} {H H1 : Hp} {d : Addr} {es : List Ent} (e : Ex H H1) (h : DW P w H d es) : DW P w H1 d es := ⟨e _ _ h.1, h.2.1, fun x hx => (h.2.2 x hx).mono e⟩
theorem DW.push {P : Program} {w : World} {H : Hp} {d b a : Addr} {es : List Ent} {M : Mat} (h : DW P w H d es) (hk : KT H b M) : DW P w (upd H d (DD P w d (xsOf (es ++ [(M, b, a)])))) d (es ++ [(M, b, a)]) := by
  have ne : ∀ y vs, H y = some (.tup vs) → upd H d (DD P w d (xsOf (es ++ [(M, b, a)]))) y = some (.tup vs) := fun y vs hy => by
    rw [upd_ne]
    · exact hy
    · intro e
      subst e
      rw [h.1] at hy
      cases hy
  refine ⟨upd_same, h.2.1, fun x hx => ?_⟩
  rcases List.mem_append.mp hx with hx | hx
  · exact (h.2.2 x hx).keep ne
  · rw [List.mem_singleton] at hx
    subst hx
    exact hk.keep ne
theorem DD_new {P : Program} {w : World} {H : Hp} {h : Heap} {d : Addr} {xs : List (NestedKey × Addr × Value)} (x : DDp P w d xs h) : ObjOk P w H h d (DD P w d xs) := by
  refine ⟨x, ?_, fun h1 h2 y k => ?_⟩
  · obtain ⟨o, _, _, e, _⟩ := x
    exact ⟨o, e⟩
  · obtain ⟨o, es, ep, e, r⟩ := y
    exact ⟨o, es, ep, k _ e, r⟩
section
variable {X : Cx} {pins : List (Addr × Obj)} {σ : St} {H : Hp} {s : Shared} {P : Program} {w : World} {d b : Addr} {es : List Ent} {M : Mat}
theorem nested_ints {h : Heap} : ∀ {r : List Int} {us : List Value}, Vals (r.map V.int) us → NestedAll h (r.map NestedKey.num) us
  | [], _, h => by cases h; exact .nil
  | x :: r, _, h => by
    cases h with
    | cons r1 t =>
      obtain ⟨tk, e⟩ := r1
      subst e
      exact .cons (.int _ _) (nested_ints t)
theorem nested_row (I : Inv X pins σ H s) {x : Addr} {r : List Int} (h : H x = some (.tup (r.map V.int))) : NestedIs s.heap (.tup (r.map NestedKey.num)) (.ref x) := by
  obtain ⟨_, its, rv, o, ho, hc, n, hd⟩ := I.hok x _ h
  exact .tup ho hc hd (by simpa using nested_ints rv)
theorem nested_rows (I : Inv X pins σ H s) : ∀ {as : List Addr} {M : Mat} {us : List Value}, Paired (fun x r => H x = some (.tup (r.map V.int))) as M → Vals (as.map V.ref) us → NestedAll s.heap (M.map fun r => .tup (r.map NestedKey.num)) us
  | _, _, _, .nil, h => by cases h; exact .nil
  | _, _, _, .cons hx t, h => by
    cases h with
    | cons r1 t1 =>
      cases r1
      exact .cons (nested_row I hx) (nested_rows I t t1)
theorem nested_key (I : Inv X pins σ H s) (h : KT H b M) : (nestedKind X.prog X.w).is s.heap (keyN M) b := by
  obtain ⟨as, h1, h2⟩ := h
  obtain ⟨_, its, rv, o, ho, hc, n, hd⟩ := I.hok b _ h1
  exact ⟨.tup ho hc hd (by simpa using nested_rows I h2 rv), keyN_depth M⟩
theorem dw_of (I : Inv X pins σ H s) (h : DW X.prog X.w H d es) : s.heap.DictOfH (nestedKind X.prog X.w) d (xsOf es) := by
  obtain ⟨⟨o, ds, ep, h1, h2, h3, h4, h5⟩, _⟩ := I.hok d _ h.1
  refine ⟨o, ds, ep, h1, h2, h3, h4, fun x hx => ?_, h5⟩
  obtain ⟨e, he, rfl⟩ := List.mem_map.mp hx
  exact nested_key I (h.2.2 e he)
theorem find_key : ∀ (es : List Ent) (M : Mat), atKey (xsOf es) (keyN M) = (es.find? fun e => decide (e.1 = M)).map fun e => (e.2.1, Value.ref e.2.2)
  | [], M => rfl
  | e :: es, M => by
    have ih := find_key es M
    unfold atKey at ih ⊢
    show (((keyN e.1, e.2.1, Value.ref e.2.2) :: xsOf es).find? fun x => decide (x.1 = keyN M)).map (·.2) = _
    rw [List.find?_cons, List.find?_cons]
    by_cases c : e.1 = M
    · have c2 : keyN e.1 = keyN M := keyN_inj.mpr c
      simp [c, c2]
    · have c2 : ¬ keyN e.1 = keyN M := fun z => c (keyN_inj.mp z)
      simp only [c, c2, decide_false]
      exact ih
theorem find_mem (es : List Ent) (M : Mat) : (es.find? fun e => decide (e.1 = M)).isSome = decide (M ∈ es.map (·.1)) := by
  rw [Bool.eq_iff_iff, List.find?_isSome, decide_eq_true_eq, List.mem_map]
  simp only [decide_eq_true_eq]
theorem atKey_some (es : List Ent) (M : Mat) : (atKey (xsOf es) (keyN M)).isSome = decide (M ∈ es.map (·.1)) := by
  rw [find_key, Option.isSome_map, find_mem]
theorem room_n (hu : X.A.units + 65 < cLine) : (nestedKind X.prog X.w).room X.A.in1 := by
  show X.A.in1.units + 8 < cLine
  rw [Around.in1_units]
  omega
end
section
variable {X : Cx} {e o : Expr} {pos apos cpos : Pos} {td ty : TE}
def tDictW (P : Program) (w : World) : TE := fun _ H Q => ∀ p, H p = none → (p == sysModules) = false → Q (.ref p) (upd H p (DD P w p []))
theorem pe_dictW (P : Program) (w : World) (hP : X.prog = P := by rfl) (hw : X.w = w := by rfl) : PE X (.Dict [] [] pos) (tDictW P w) := by
  subst hP; subst hw
  exact ⟨fun pins s σ H Q I h => wpAny_Dict_empty ⟨.ref s.heap.objs.size, _, I.laid (a := s.heap.objs.size) (o := DD X.prog X.w s.heap.objs.size []) (t' := s.toks) (fun _ _ q => Heap.get?_push_of_some _ q) (Nat.le_refl _)
    (DD_new ⟨_, #[], 0, Heap.get?_push_size _ rfl, ⟨rfl, rfl, rfl⟩, rfl, rfl, List.nodup_nil⟩), rfl, h _ (I.hok.fresh (Nat.le_refl _)) (beq_eq_false_iff_ne.mpr (Ne.symm (Nat.ne_of_lt I.big)))⟩⟩
def rNinW (P : Program) (w : World) : R2 := fun x y H Q => ∃ b d es M, x = .ref b ∧ y = .ref d ∧ DW P w H d es ∧ KT H b M ∧ Q (.bl (!decide (M ∈ es.map (·.1)))) H
theorem op_ninW (P : Program) (w : World) (hu : X.A.units + 65 < cLine) (hP : X.prog = P := by rfl) (hw : X.w = w := by rfl) : OpR X (compareOp .NotIn) (rNinW P w) := by
  subst hP; subst hw
  intro pins s σ H x y v u Q I rx ry h
  obtain ⟨b, d, es, M, rfl, rfl, hd, hb, q⟩ := h
  cases rx; cases ry
  refine notIn_keyed (knd := nestedKind X.prog X.w) (room_n hu) (nested_key I hb) hd.2.1 ⟨xsOf es, dw_of I hd, rfl⟩ ?_
  rw [valueAt_pairsH, Option.isSome_map, atKey_some]
  exact ⟨.bl _, H, I.tok _, rfl, q⟩
def rSetW (P : Program) (w : World) : TSet := fun o i v H Q => ∃ d b es M a, o = .ref d ∧ i = .ref b ∧ v = .ref a ∧ DW P w H d es ∧ KT H b M ∧ M ∉ es.map (·.1) ∧ es.length < 10000 ∧ Q (upd H d (DD P w d (xsOf (es ++ [(M, b, a)]))))
theorem set_dictW (P : Program) (w : World) (hu : X.A.units + 65 < cLine) (hP : X.prog = P := by rfl) (hw : X.w = w := by rfl) : PSet X (rSetW P w) := by
  subst hP; subst hw
  intro pins s σ H o i v ov iv u Q I ro ri rv h
  obtain ⟨d, b, es, M, a, rfl, rfl, rfl, hd, hb, hM, hl, q⟩ := h
  cases ro; cases ri; cases rv
  have hn : atKey (xsOf es) (keyN M) = none := by
    have := atKey_some es M
    rw [decide_eq_false hM] at this
    simpa using this
  refine wpAny_setItem_heap (knd := nestedKind X.prog X.w) (xs := xsOf es) (room_n hu) (nested_key I hb) (dw_of I hd) (fun h' hm hs => ?_) (by unfold xsOf; rw [List.length_map]; exact Nat.le_trans (Nat.le_of_lt hl) (by decide))
  rw [storedH_new hn] at hm
  have hx : xsOf es ++ [(keyN M, b, Value.ref a)] = xsOf (es ++ [(M, b, a)]) := by unfold xsOf; rw [List.map_append]; rfl
  rw [hx] at hm
  obtain ⟨ob, ds, ep, h1, h2, h3, h4, _, h5⟩ := hm
  exact ⟨_, I.write (x := d) (e := d) (by rw [hd.1]; exact True.intro) (.inl rfl) (fun c z hc hz => (hs.2 c hc).trans hz) ⟨_, h1⟩ (DD_new ⟨ob, ds, ep, h1, h2, h3, h4, h5⟩), q⟩
def rLenW (P : Program) (w : World) : List V → Hp → VK → Prop := fun vs H Q => ∃ d es, vs = [.ref d] ∧ DW P w H d es ∧ es.length ≤ 10000 ∧ Q (.int es.length) H
theorem lenW (P : Program) (w : World) (hP : X.prog = P := by rfl) (hw : X.w = w := by rfl) : CallR X (.builtin "len") (rLenW P w) := by
  subst hP; subst hw
  intro pins s σ H vs us Q I r h
  obtain ⟨d, es, rfl, hd, hl, q⟩ := h
  rw [Vals.ref1 r]
  have hm : s.heap.DictKeyed (nestedKind X.prog X.w) d (pairsH (xsOf es)) := ⟨xsOf es, dw_of I hd, rfl⟩
  have hlen : (pairsH (xsOf es)).length = es.length := by rw [pairsH_length]; unfold xsOf; rw [List.length_map]
  refine PyProof.Rows.call_len_slot (n := (pairsH (xsOf es)).length) hm.typeIs PySem.F.slot_dict_len (fun Q' hq => len_keyed hd.2.1 hm hq) (by omega) (by rw [hlen]; omega) ?_
  rw [hlen]
  exact ⟨.int _, H, I.tok _, ⟨_, rfl⟩, q⟩
/-- ways.get(key) -/
def tGetW (P : Program) (w : World) (td ty : TE) : TE := fun σ H Q => td σ H fun x H1 => ∃ d es, x = .ref d ∧ DW P w H1 d es ∧ ty σ H1 fun y H2 => ∃ b M, y = .ref b ∧ DW P w H2 d es ∧ KT H2 b M ∧
  Q (match es.find? fun e => decide (e.1 = M) with | some e => .ref e.2.2 | none => .non) H2
theorem pe_getW (P : Program) (w : World) (hu : X.A.units + 65 < cLine) (ho : PE X o td) (he : PE X e ty) (m : M1 X o "get" apos e cpos) (hP : X.prog = P := by rfl) (hw : X.w = w := by rfl) : PE X (.Call (.Attribute o "get" apos) [e] [] cpos) (tGetW P w td ty) := by
  subst hP; subst hw
  refine ⟨fun pins s σ H Q I h => ?_⟩
  refine wpAny_Call_method m.base m.few m.line PySem.F.plainAttrs_dict PySem.F.slot_dict_get PySem.F.type_dict_get (thn (ho.run pins s σ H _ I h) fun u s1 ⟨x, H1, I1, rx, d, es, ex, hd, q1⟩ => ?_)
  subst ex
  obtain rfl : u = Value.ref d := rx
  have hD := dw_of I1 hd
  refine ⟨hD.typeIs, fun a q => ?_, ?_⟩
  · cases q
    obtain ⟨ob, _, _, h1, h2, _⟩ := hD
    exact ⟨ob, h1, h2.2.1⟩
  rw [m.trees]
  refine Calls.callWith_builtin rfl (Calls.evalArgs_plain (Calls.spliced_cons (thn (he.run pins s1 σ H1 _ I1 q1) fun iv s2 ⟨y, H2, I2, ry, b, M, ey, hd2, hb, q2⟩ => Calls.spliced_nil ?_)))
  subst ey
  obtain rfl : iv = Value.ref b := ry
  refine get_keyed (knd := nestedKind X.prog X.w) (room_n hu) (nested_key I2 hb) hd.2.1 ⟨xsOf es, dw_of I2 hd2, rfl⟩ ?_
  rw [valueAt_pairsH, find_key]
  cases hf : es.find? fun e => decide (e.1 = M) with
  | none =>
    rw [hf] at q2
    exact ⟨.non, H2, I2.tok _, rfl, q2⟩
  | some z =>
    rw [hf] at q2
    exact ⟨.ref z.2.2, H2, I2.tok _, rfl, q2⟩
end
end AT

/-! ## sorted of such a dict, of a list of matrices -/
namespace AT
open PySem PySem.Spec PyProof.Rows L2 Evl
def toT (M : Mat) : PySem.W.Tup (PySem.W.Tup Int) := ⟨M.map fun r => ⟨r⟩⟩
def encM (M : Mat) : PyData := PySem.W.Datum.toD (toT M)
theorem encM_eq (M : Mat) : encM M = .tuple (M.map fun r => .tuple (r.map .int)) := by
  show PyData.tuple ((M.map fun r => (⟨r⟩ : PySem.W.Tup Int)).map PySem.W.Datum.toD) = _
  rw [List.map_map]
  rfl
theorem listLt_row : ∀ (M N : Mat), PySem.W.listLt (M.map fun r => (⟨r⟩ : PySem.W.Tup Int)) (N.map fun r => ⟨r⟩) = ltM M N
  | [], [] => rfl
  | [], _ :: _ => rfl
  | _ :: _, [] => rfl
  | r :: M, q :: N => by
    rw [List.map_cons, List.map_cons]
    show (if (⟨r⟩ : PySem.W.Tup Int) = ⟨q⟩ then _ else _) = (if r = q then _ else _)
    by_cases c : r = q
    · rw [if_pos (by rw [c]), if_pos c]
      exact listLt_row M N
    · rw [if_neg (fun z => c (by injection z)), if_neg c]
      rfl
theorem lt_toT (M N : Mat) : PySem.W.DatumOrd.lt (toT M) (toT N) = ltM M N := listLt_row M N
def leM (M N : Mat) : Bool := !ltM N M
def sortMat (Ms : List Mat) : List Mat := Ms.mergeSort leM
theorem dataLe_M (M N : Mat) : (!PySem.W.dataLt (encM N) (encM M)) = leM M N := by
  unfold leM encM
  rw [PySem.W.DatumOrd.lt_eq, lt_toT]
section
variable {K : Frag} {H : Hp}
theorem KT.dp {b : Addr} {M : Mat} (h : KT H b M) : Dp K H (.ref b) (encM M) := by
  obtain ⟨as, h1, h2⟩ := h
  rw [encM_eq]
  refine .tup (st_of h1) ?_
  have go : ∀ {as : List Addr} {M : Mat}, Paired (fun x r => H x = some (.tup (r.map V.int))) as M → DpAll K H (as.map V.ref) (M.map fun r => .tuple (r.map .int)) := fun {as M} hP => by
    induction hP with
    | nil => exact .nil
    | cons r t ih => exact .cons (.tup (st_of r) (dpAll_ints _)) ih
  exact go h2
end
def leE (e f : Ent) : Bool := leM e.1 f.1
section
variable {X : Cx}
def rSortW (P : Program) (w : World) : List V → Hp → VK → Prop := fun vs H Q => ∃ (d : Addr) (es : List Ent), vs = [.ref d] ∧ DW P w H d es ∧ (∀ e, e ∈ es → e.1 ≠ []) ∧ es.length ≤ 1000 ∧ ∀ p, H p = none → Q (.ref p) (upd H p (.lst ((es.mergeSort leE).map fun e => V.ref e.2.1)))
theorem dpAll_ents {K : Frag} {H : Hp} : ∀ {es : List Ent}, (∀ e, e ∈ es → KT H e.2.1 e.1) → DpAll K H (es.map fun e => V.ref e.2.1) (es.map fun e => encM e.1)
  | [], _ => .nil
  | e :: es, h => .cons (h e List.mem_cons_self).dp (dpAll_ents fun x hx => h x (List.mem_cons_of_mem _ hx))
theorem vals_ents : ∀ {es : List Ent}, Vals (es.map fun e => V.ref e.2.1) (es.map fun e => Value.ref e.2.1)
  | [] => .nil
  | e :: es => .cons rfl (vals_ents (es := es))
theorem each_ents {h : Heap} : ∀ {es : List Ent} {as : List Addr}, ReadsAll h (es.map fun e => Value.ref e.2.1) (es.map fun e => encM e.1) as → PySem.W.EachIs (fun v (b : Ent) => ∃ as, Reads h v (encM b.1) as) (es.map fun e => Value.ref e.2.1) es
  | [], _, _ => .nil
  | e :: es, _, h => by
    cases h with
    | cons r t => exact .cons ⟨_, r⟩ (each_ents t)
theorem each_refl : ∀ {es : List Ent}, PySem.W.EachIs (fun v (b : Ent) => v = Value.ref b.2.1) (es.map fun e => Value.ref e.2.1) es
  | [] => .nil
  | e :: es => .cons rfl each_refl
theorem vals_each2 : ∀ {es : List Ent} {us : List Value}, PySem.W.EachIs (fun v (b : Ent) => v = Value.ref b.2.1) us es → Vals (es.map fun e => V.ref e.2.1) us
  | [], _, h => by cases h; exact .nil
  | e :: es, _, h => by
    cases h with
    | cons r t =>
      subst r
      exact .cons rfl (vals_each2 t)
theorem sortedW (P : Program) (w : World) (hc : X.calm = true) (hu : X.A.units + 64 < cLine) (hP : X.prog = P := by rfl) (hw : X.w = w := by rfl) : CallR X (.builtin "sorted") (rSortW P w) := by
  subst hP; subst hw
  intro pins s σ H vs us Q I r h
  obtain ⟨d, es, rfl, hd, hne, hl, q⟩ := h
  rw [Vals.ref1 r]
  obtain ⟨ds, ep, hr, hs, hi⟩ := (dw_of I hd).raw
  have hxl : (xsOf es).length = es.length := by unfold xsOf; rw [List.length_map]
  have h16 : ds.size ≤ sizeLine := by rw [hs, hxl]; exact Nat.le_trans hl (by decide)
  refine Calls.call_function_entry PyProof.Rows.kind_sorted PyProof.Rows.plain_sorted PyProof.Rows.entry_sorted (PyProof.Rows.args_sorted1 _) ?_
  unfold Builtin.«sorted»
  refine wpAny_bind (m := checkCount "sorted" 1 1 _) (wpAny_pure ?_)
  refine wpAny_bind (PySem.W.kdu_collect (A := X.A.in1) (KdlSrc.rawDict (es := ds) (ep := ep) hd.2.1) (I.ok.hd hc) hr h16 fun h' tk acc hk hacc => ?_)
  have hacl : acc.toList = es.map fun e => Value.ref e.2.1 := by
    apply List.ext_getElem?
    intro j
    rw [Array.getElem?_toList, List.getElem?_map]
    cases hv : acc[j]? with
    | none =>
      have hj : acc.size ≤ j := Array.getElem?_eq_none_iff.mp hv
      have : es.length ≤ j := by rw [← hxl, ← hs, ← hacc.1]; exact hj
      rw [List.getElem?_eq_none this]
      rfl
    | some v =>
      obtain ⟨hj, ev⟩ := hacc.2 j v hv
      obtain ⟨y, hy, h1, _⟩ := hi j hj
      unfold xsOf at hy
      rw [List.getElem?_map] at hy
      cases he : es[j]? with
      | none => rw [he] at hy; cases hy
      | some e =>
        rw [he] at hy
        cases hy
        rw [ev, h1]
        rfl
  rw [hacl]
  generalize hvs : (es.map fun e => Value.ref e.2.1) = its
  have hal : its.length = es.length := by rw [← hvs, List.length_map]
  have I1 : Inv X pins σ H { s with heap := h', toks := tk } := I.kept hk
  refine wpAny_bind (wpAny_newList ?_ (by rw [hal]; exact Nat.le_trans hl (by decide)))
  have hoL : (h'.push (seqObj "list" its.toArray 0)).get? h'.objs.size = some (seqObj "list" its.toArray 0) := Heap.get?_push_size _ rfl
  show wpAny _ _ _ _ _ { s with heap := h'.push (seqObj "list" its.toArray 0), toks := tk }
  obtain ⟨as, hra⟩ := Dp.readsAll I1 (es.map fun e => encM e.1) _ its (dpAll_ents (K := X.K) hd.2.2) (hvs ▸ vals_ents)
  have er : PySem.W.EachIs (fun v (b : Ent) => ∃ as, Reads h' v (encM b.1) as) its es := by
    subst hvs
    exact each_ents hra
  have er' : PySem.W.EachIs (fun v (b : Ent) => ∃ as, Reads (PySem.W.sortingHeap (h'.push (seqObj "list" its.toArray 0)) h'.objs.size its) v (encM b.1) as) its es := er.mono fun _ _ ⟨as, r⟩ => ⟨as, PyProof.Rows.Reads.keeps (fun b o q => PySem.W.sortingHeap_old (Nat.ne_of_lt (Heap.lt_size q)) (Heap.get?_push_of_some _ q)) r⟩
  have hall : PySem.W.AllAlike (es.map fun e => encM e.1) := PySem.W.AllAlike.of fun a b => PySem.W.DatumOrd.alike (toT a.1) (toT b.1)
  have hsb : PySem.W.Sortable (es.map fun e => encM e.1) := .inl fun d hd => by
    obtain ⟨e, he, rfl⟩ := List.mem_map.mp hd
    rw [encM_eq]
    have := hne e he
    cases hM : e.1 with
    | nil => exact absurd hM this
    | cons r M => exact ⟨_, _, rfl⟩
  have hdp : ∀ b : Ent, b ∈ es → X.A.in1.in1.units + (encM b.1).depth < cLine := fun b _ => by
    have : (encM b.1).depth ≤ 2 := PySem.W.Datum.depth_le (toT b.1)
    rw [Around.in1_units, Around.in1_units]
    omega
  have hre : PySem.W.EachIs (fun v (b : Ent) => v = Value.ref b.2.1) its es := hvs ▸ each_refl
  refine wpAny_bind (wpAny_holding (wpAny_call_entry PyProof.Rows.slot_list_sort ⟨_, hoL, rfl⟩ PyProof.Rows.entry_list_sort
    (PySem.W.list_sort_vals (s := { s with heap := h'.push (seqObj "list" its.toArray 0), toks := tk }) (κ := PySem.W.dataKind (PySem.W.sortingHeap (h'.push (seqObj "list" its.toArray 0)) h'.objs.size its) (es.map fun e => encM e.1)) hoL
      (PySem.W.SortsAt.data (s := { s with heap := PySem.W.sortingHeap (h'.push (seqObj "list" its.toArray 0)) h'.objs.size its, toks := tk }) (PySem.W.each_map (R := fun v d => ∃ as, Reads (PySem.W.sortingHeap (h'.push (seqObj "list" its.toArray 0)) h'.objs.size its) v d as) (fun e : Ent => encM e.1) er') hall hsb (PySem.W.bound_map hdp))
      (by rw [hal]; exact Nat.le_trans hl (by decide)) ⟨_, rfl, ?_⟩)
    (PyProof.Rows.args_list_sort _)))
  have hout := PySem.W.sortVals_data (h' := PySem.W.sortingHeap (h'.push (seqObj "list" its.toArray 0)) h'.objs.size its) false hre er' hall
  generalize PySem.W.sortVals (PySem.W.dataKind (PySem.W.sortingHeap (h'.push (seqObj "list" its.toArray 0)) h'.objs.size its) (es.map fun e => encM e.1)) false its its = out at hout
  have hms : es.mergeSort (PySem.W.dataLe false fun e => encM e.1) = es.mergeSort leE := by
    congr 1
    funext a b
    rw [PySem.W.dataLe_eq]
    exact dataLe_M a.1 b.1
  rw [hms] at hout
  obtain ⟨e', he'⟩ := PyProof.Rows.sortedHeap_at (vs := its) (out := out.toArray) hoL
  have hlen : ((es.mergeSort leE).map fun e => V.ref e.2.1).length ≤ sizeLine := by
    rw [List.length_map, List.length_mergeSort]
    exact Nat.le_trans hl (by decide)
  refine wpAny_pure ⟨_, rfl, .ref h'.objs.size, upd H h'.objs.size (.lst ((es.mergeSort leE).map fun e => V.ref e.2.1)), I1.laid (t' := tk) (fun b u e => ?_) (Nat.le_refl _)
    (show ObjOk X.prog X.w _ _ _ (.lst _) from ⟨hlen, out, e', vals_each2 hout, he'⟩), rfl, q _ (I1.hok.fresh (Nat.le_refl _))⟩
  have hb : b < h'.objs.size := Heap.lt_size e
  rw [PyProof.Rows.sortedHeap_old (Nat.ne_of_lt hb) (by rw [size_push']; exact Nat.lt_succ_of_lt hb)]
  exact Heap.get?_push_of_some _ e
end
end AT

/-! ## what turns lead to: the list gone through, in order -/
namespace AT
open PySem PySem.Spec PyProof.Rows L2 Evl
abbrev Fun2 := Nat → Nat → Int
abbrev WE := List Nat × Fun2
def nmE (n : Nat) (e : WE) : Mat := leastM n e.2
def addE (e : WE) (b : Nat) : WE := (e.1 ++ [b], turnF e.2 b)
def isNew (n : Nat) (S : List WE) (e : WE) : Bool := !decide (nmE n e ∈ S.map (nmE n))
def stepB (n : Nat) (e : WE) (S : List WE) (b : Nat) : List WE := if isNew n S (addE e b) = true ∧ S.length ≤ 20 then S ++ [addE e b] else S
def we0 : WE := ([], fun _ _ => 0)
def stepA (n at_ : Nat) (S : List WE) : List WE := (List.range n).foldl (stepB n (S.getD at_ we0)) S
def runW (n : Nat) : Nat → Nat → List WE → List WE
  | 0, _, S => S
  | f + 1, i, S => if i < S.length ∧ S.length ≤ 20 then runW n f (i + 1) (stepA n i S) else S
def waysL (n : Nat) (f : Fun2) : List WE := runW n 21 0 [([], f)]
theorem stepB_stuck {n : Nat} {e : WE} {S : List WE} {b : Nat} (h : 20 < S.length) : stepB n e S b = S := if_neg fun z => by omega
theorem stepB_add {n : Nat} {e : WE} {S : List WE} {b : Nat} (h1 : isNew n S (addE e b) = true) (h2 : S.length ≤ 20) : stepB n e S b = S ++ [addE e b] := if_pos ⟨h1, h2⟩
theorem fold_stuck {n : Nat} {e : WE} {S : List WE} (h : 20 < S.length) : ∀ l : List Nat, l.foldl (stepB n e) S = S
  | [] => rfl
  | b :: l => by rw [List.foldl_cons, stepB_stuck h, fold_stuck h l]
theorem runW_stuck {n : Nat} {S : List WE} (h : 20 < S.length) : ∀ f i, runW n f i S = S
  | 0, _ => rfl
  | f + 1, i => if_neg fun z => by omega
theorem stepB_pre {n : Nat} {e : WE} {S : List WE} {b : Nat} : S <+: stepB n e S b := by
  unfold stepB
  split
  · exact List.prefix_append _ _
  · exact List.prefix_refl _
theorem fold_pre {n : Nat} {e : WE} : ∀ (l : List Nat) (S : List WE), S <+: l.foldl (stepB n e) S
  | [], S => List.prefix_refl _
  | b :: l, S => stepB_pre.trans (fold_pre l _)
theorem pre_getD {S S' : List WE} (h : S <+: S') {i : Nat} (hi : i < S.length) : S'.getD i we0 = S.getD i we0 := by
  obtain ⟨t, rfl⟩ := h
  rw [List.getD_eq_getElem?_getD, List.getD_eq_getElem?_getD, List.getElem?_append_left hi]
theorem stepB_len {n : Nat} {e : WE} {S : List WE} {b : Nat} (h : S.length ≤ 21) : (stepB n e S b).length ≤ 21 := by
  unfold stepB
  split
  · rename_i c
    rw [List.length_append]
    have := c.2
    simp only [List.length_cons, List.length_nil]
    omega
  · exact h
theorem fold_len {n : Nat} {e : WE} : ∀ (l : List Nat) {S : List WE}, S.length ≤ 21 → (l.foldl (stepB n e) S).length ≤ 21
  | [], _, h => h
  | b :: l, _, h => fold_len l (stepB_len h)
theorem range_fold (n : Nat) (e : WE) (S : List WE) (j : Nat) : (List.range (j + 1)).foldl (stepB n e) S = stepB n e ((List.range j).foldl (stepB n e) S) j := by
  rw [List.range_succ, List.foldl_append]; rfl
theorem range_split {n j : Nat} (h : j ≤ n) (e : WE) (S : List WE) (m : Nat) : (List.range n).foldl (stepB m e) S = (List.range' j (n - j)).foldl (stepB m e) ((List.range j).foldl (stepB m e) S) := by
  rw [← List.foldl_append]
  congr 1
  rw [List.range_eq_range', List.range_eq_range']
  have := List.range'_append (s := 0) (m := j) (n := n - j) (step := 1)
  rw [show 0 + 1 * j = j by omega, show j + (n - j) = n by omega] at this
  exact this.symm
/-- numbers of the i-th form: less than 8 * 2^i bits -/
def BitsE (B n : Nat) (f : Fun2) : Prop := ∀ i j, i < n → j < n → (f i j).natAbs < 2 ^ B
def bI (i : Nat) : Nat := 8 * 2 ^ i - 1
theorem bI_succ (i : Nat) : bI (i + 1) = 2 * bI i + 1 := by
  unfold bI
  have : 1 ≤ 2 ^ i := Nat.one_le_two_pow
  rw [Nat.pow_succ]
  omega
theorem bI_mono {i j : Nat} (h : i ≤ j) : bI i ≤ bI j := by
  unfold bI
  have := Nat.pow_le_pow_right (n := 2) (by decide) h
  omega
theorem bI_20 : bI 20 = 8388607 := by decide
theorem bI_pos (i : Nat) : 0 < bI i := by
  unfold bI
  have : 1 ≤ 2 ^ i := Nat.one_le_two_pow
  omega
theorem thr_abs (a b : Int) : (thr a b).natAbs ≤ (a * b).natAbs := by
  unfold thr
  split
  · exact Nat.le_refl _
  · split <;> omega
theorem bits_turn {B n k : Nat} {f : Fun2} (h : BitsE B n f) (hk : k < n) (hB : 0 < B) : BitsE (2 * B + 1) n (turnF f k) := fun i j hi hj => by
  have h1 := h i j hi hj
  have h2 := h i k hi hk
  have h3 := h k j hk hj
  have e1 : 2 ^ B ≤ 2 ^ (B + B) := Nat.pow_le_pow_right (by decide) (by omega)
  have e2 : 2 ^ (2 * B + 1) = 2 ^ (B + B) + 2 ^ (B + B) := by rw [show 2 * B + 1 = (B + B) + 1 by omega, Nat.pow_succ]; omega
  have h4 : (f i k * f k j).natAbs < 2 ^ (B + B) := wide_lt h2 h3
  have h5 := thr_abs (f i k) (f k j)
  rw [e2]
  unfold turnF
  split
  · omega
  · omega
def BitsS (n : Nat) (S : List WE) : Prop := ∀ (i : Nat) e, S[i]? = some e → BitsE (bI i) n e.2 ∧ e.1.length ≤ i
theorem bits_step {n i b : Nat} {S : List WE} {e : WE} (h : BitsS n S) (he : S[i]? = some e) (hb : b < n) : BitsS n (stepB n e S b) := by
  unfold stepB
  split
  · intro j x hx
    by_cases hj : j < S.length
    · rw [List.getElem?_append_left hj] at hx
      exact h j x hx
    · rw [List.getElem?_append_right (by omega)] at hx
      have hil := (List.getElem?_eq_some_iff.mp he).1
      have hj2 : j - S.length = 0 := by
        have := (List.getElem?_eq_some_iff.mp hx).1
        simp at this
        omega
      rw [hj2] at hx
      cases hx
      have h1 := bits_turn (h i e he).1 hb (bI_pos i)
      rw [← bI_succ] at h1
      have h2 : bI (i + 1) ≤ bI j := bI_mono (by omega)
      refine ⟨fun x y hx hy => Nat.lt_of_lt_of_le (h1 x y hx hy) (Nat.pow_le_pow_right (by decide) h2), ?_⟩
      have h3 := (h i e he).2
      show (e.1 ++ [b]).length ≤ j
      rw [List.length_append]
      show _ + 1 ≤ j
      omega
  · exact h
theorem bits_form {n : Nat} {f : Fun2} (h : FormOf n f) : BitsS n [([], f)] := fun i e he => by
  have hi : i = 0 := by
    have := (List.getElem?_eq_some_iff.mp he).1
    simp at this
    omega
  subst hi
  cases he
  refine ⟨fun x y hx hy => ?_, Nat.le_refl 0⟩
  have := h.2.2 x y hx hy
  show (f x y).natAbs < 2 ^ (bI 0)
  have : bI 0 = 7 := by decide
  rw [this]
  have : (2 : Nat) ^ 7 = 128 := by decide
  omega
theorem BitsE.to {n : Nat} {f : Fun2} {i : Nat} (h : BitsE (bI i) n f) (hi : i ≤ 20) : Bits (bI i) n f := ⟨bI_pos i, by
  have := bI_mono hi
  rw [bI_20] at this
  omega, h⟩
end AT

/-! ## key_of; what holds while the ways are gone through -/
namespace AT
open PySem PySem.Spec PyProof.Rows L2 Evl
def OKT (H0 H : Hp) (b : Addr) (M : Mat) : Prop := H0 b = none ∧ ∃ as : List Addr, H b = some (.tup (as.map V.ref)) ∧ Paired (fun x r => H0 x = none ∧ H x = some (.tup (r.map V.int))) as M
def RKT (M : Mat) : R3 := fun H1 H2 v => ∃ b, v = .ref b ∧ OKT H1 H2 b M
theorem OKT.kt {H0 H : Hp} {b : Addr} {M : Mat} (h : OKT H0 H b M) : KT H b M := by
  obtain ⟨_, as, h1, h2⟩ := h
  exact ⟨as, h1, paired_mono h2 fun _ _ z => z.2⟩
theorem OKT.mono {H0 H H1 : Hp} {b : Addr} {M : Mat} (e : Ex H H1) (h : OKT H0 H b M) : OKT H0 H1 b M := by
  obtain ⟨h0, as, h1, h2⟩ := h
  exact ⟨h0, as, e _ _ h1, paired_mono h2 fun _ _ z => ⟨z.1, e _ _ z.2⟩⟩
theorem OKT.back {H0 H H1 : Hp} {b : Addr} {M : Mat} (e : Ex H0 H1) (h : OKT H1 H b M) : OKT H0 H b M := by
  obtain ⟨h0, as, h1, h2⟩ := h
  exact ⟨fresh_back e h0, as, h1, paired_mono h2 fun _ _ z => ⟨fresh_back e z.1, z.2⟩⟩
theorem mon_RKT {M : Mat} : Mon (RKT M) := ⟨fun e ⟨b, h, q⟩ => ⟨b, h, q.mono e⟩, fun e ⟨b, h, q⟩ => ⟨b, h, q.back e⟩⟩
section
variable {K : Frag} {σ : St} {H H0 H1 : Hp} {te ta tb tl : TE} {a : Addr}
theorem er_tupL {xs : List V} (h : Ev te σ H (.ref a)) (hx : SqL K H a xs) : Er (tCB (rTupS K) (tCons te tNil)) σ H (RT xs) := fun H1 e Q q =>
  h H1 e _ fun H2 e2 => ⟨a, xs, rfl, .inl ⟨ex_l (e.trans e2) hx, fun l hl => q _ _ (e2.trans (Ex.new hl)) ⟨l, rfl, fresh_back e2 hl, upd_same⟩⟩⟩
theorem er_tupN {idx : List Nat} {M : Nat → List Int} {N : Mat} (h : Er te σ H (RLs idx fun i => RT ((M i).map V.int))) (hN : N = idx.map M) : Er (tCB (rTupS K) (tCons te tNil)) σ H (RKT N) := fun H1 e Q q =>
  h H1 e _ fun v H2 e2 ⟨p, vs, hv, hp, hp2, hP⟩ => by
    subst hv
    refine ⟨p, vs, rfl, .inl ⟨sq_of hp2, fun l hl => ?_⟩⟩
    have en : Ex H2 (upd H2 l (.tup vs)) := Ex.new hl
    have key : ∀ {vs : List V} {idx : List Nat}, Paired (fun v j => RT ((M j).map V.int) H1 H2 v) vs idx → ∃ as : List Addr, vs = as.map V.ref ∧ Paired (fun x j => H1 x = none ∧ H2 x = some (.tup ((M j).map V.int))) as idx := fun {vs idx} hP => by
      induction hP with
      | nil => exact ⟨[], rfl, .nil⟩
      | cons r t ih =>
        obtain ⟨x, hx, h1, h2⟩ := r
        obtain ⟨as, h3, h4⟩ := ih
        exact ⟨x :: as, by rw [hx, h3]; rfl, .cons ⟨h1, h2⟩ h4⟩
    obtain ⟨as, rfl, has⟩ := key hP
    refine q _ _ (e2.trans en) ⟨l, rfl, fresh_back e2 hl, as, upd_same, ?_⟩
    have h5 : Paired (fun x r => H1 x = none ∧ upd H2 l (.tup (as.map V.ref)) x = some (.tup (r.map V.int))) (as.map id) (idx.map M) := paired_map (fun x j ⟨z1, z2⟩ => ⟨z1, en _ _ z2⟩) has
    rw [List.map_id] at h5
    rw [hN]
    exact h5
/-- xs + [j] -/
theorem er_catI {xs : List Int} {j : Int} (ha : Ev ta σ H (.ref a)) (hl : H a = some (.lst (xs.map V.int))) (hb : Ev tb σ H (.int j)) (hz : xs.length ≤ 10000) : Er (tOp rCat ta (tLst (tCons tb tNil))) σ H (RL (xs ++ [j])) := fun H1 e Q q =>
  ha H1 e _ fun H2 e2 => hb H2 (e.trans e2) _ fun H3 e3 => ⟨by show 1 ≤ sizeLine; decide, fun b hb => by
    have en : Ex H3 (upd H3 b (.lst [.int j])) := Ex.new hb
    refine ⟨a, b, _, _, rfl, rfl, (((e.trans e2).trans e3).trans en) _ _ hl, upd_same, ?_, fun p hp => ?_⟩
    · rw [List.length_map]
      exact Nat.le_trans (m := 10001) (by show _ + 1 ≤ 10001; omega) (by decide)
    · have ep := Ex.new (o := .lst (xs.map V.int ++ [.int j])) hp
      exact q _ _ (((e2.trans e3).trans en).trans ep) ⟨p, rfl, fresh_back ((e2.trans e3).trans en) hp, by rw [upd_same, List.map_append]; rfl⟩⟩
end
def sp_key_of (K : Frag) : Sp := fun vs H Q _ => ∃ (a : Addr) (n : Nat) (f : Nat → Nat → Int), vs = [.ref a] ∧ LLI K H a (Fm n f) ∧ n ≤ 5 ∧ ∀ H' b, Ex H H' → OKT H H' b (leastM n f) → Q (.ref b) H'
theorem least_len (n : Nat) (f : Nat → Nat → Int) : (leastM n f).length = n := by
  obtain ⟨ps, _, h⟩ := least_mem n f
  rw [h, fm_len]
section
variable {P : Program} {w : World} {K : Frag} {mg : Str → Option Value} {base : Heap} {k : Nat}
theorem ok_key_of (T : Txt K mg) (G_least_by : FnOk P w K mg base CX0 k T.f_least_by T.d_least_by ["form"] (sp_least_by K)) : FnOk P w K mg base CX0 (k + 1) T.f_key_of T.d_key_of ["form"] (sp_key_of K) := by
  refine T.F_key_of.ok sc_key_of (fun vs H Q E h => ?_) (fun cdv A outer s H vs Q E hr h => ?_)
  · obtain ⟨a, n, f, rfl, _⟩ := h
    rfl
  · obtain ⟨a, n, f, rfl, hM, hn, q⟩ := h
    refine ⟨_, (pss_one (ps_ret (pe_callTy (tupK K) rfl T.b_tuple (by decide +kernel) (pa_cons (pe_lc (own := [("row", 1)]) rfl sc_key_of.nd (pi_listK K (pe_call G_least_by hr rfl T.m_least_by T.F_least_by.kp T.b_least_by .nil pass0 (pa_cons (pv 0) pa_nil))) (blkOk_by (own := [("row", 1)]) (N := N_key_of) (sc := defScope s_key_of) (by decide +kernel)) (fun _ _ _ _ _ => (pg_name (i := 1) sc_key_of.nd rfl (.inl rfl))) (fun _ _ _ _ _ => pts_nil) (fun _ _ _ _ _ => (pe_callTy (tupK K) rfl T.b_tuple (by decide +kernel) (pa_cons (pv 1) pa_nil)))) pa_nil)))), ?_⟩
    have hml := least_len n f
    have hlc := er_lcN (K := K) (σ := [some (V.ref a), none]) (H := H) (t := tYes) (tl := tCall (sp_least_by K) [] E0 (tCons (tVar 0) tNil)) (te := tCB (rTupS K) (tCons (tVar 1) tNil)) (j := 1) (vs := [1]) (n := n) (R0 := RM (leastM n f)) (fun _ => true) (fun i => RT (((leastM n f).getD i []).map V.int)) (fun _ => mon'_RT)
      (er_call mon_RM (ea_cons (ev_var rfl) ea_nil) fun G1 g1 Q' q' E' => ⟨a, n, f, rfl, hM.mono g1, hn, fun H' p e hO => q' _ H' e ⟨p, rfl, hO⟩⟩) (by omega) (fun _ => rfl) (fun G1 G2 v g1 g2 ⟨p, hv, hO⟩ => by
        obtain ⟨as, h1, h2⟩ := hO.lli (K := K)
        refine ⟨p, as.map V.ref, hv, h1, by rw [List.length_map, h2.length, hml], fun i x G3 hx g3 => ⟨fun G4 g4 Q' q' => q' G4 (Ex.refl _), fun _ => ?_⟩⟩
        rw [List.getElem?_map] at hx
        cases hy : as[i]? with
        | none => rw [hy] at hx; cases hx
        | some y =>
          rw [hy] at hx
          cases hx
          obtain ⟨r, hr1, hr2⟩ := paired_getL h2 hy
          have e : (leastM n f).getD i [] = r := by rw [List.getD_eq_getElem?_getD, hr1]; rfl
          rw [e]
          exact er_tupL (ev_var rfl) (hr2.mono g3))
    refine sr_ret (er_tupN (K := K) (N := leastM n f) (M := fun i => (leastM n f).getD i []) hlc ?_) fun v H1 e1 ⟨b, hv, hO⟩ => ?_
    · rw [filt_all]
      have := list_eq_range [] (leastM n f)
      rw [hml] at this
      exact this
    · subst hv
      exact q H1 b e1 hO
end
/-- a heap without two of its objects -/
def del (H : Hp) (a b : Addr) : Hp := fun x => if x = a ∨ x = b then none else H x
theorem del_ne {H : Hp} {a b x : Addr} (h1 : x ≠ a) (h2 : x ≠ b) : del H a b x = H x := if_neg fun z => z.elim h1 h2
theorem del_ex {H : Hp} {a b : Addr} : Ex (del H a b) H := fun x o h => by
  unfold del at h
  split at h
  · cases h
  · exact h
theorem ex_del {G H : Hp} {a b : Addr} (e : Ex G H) (ha : G a = none) (hb : G b = none) : Ex G (del H a b) := fun x o h => by
  rw [del_ne (fun z => by subst z; rw [ha] at h; cases h) (fun z => by subst z; rw [hb] at h; cases h)]
  exact e _ _ h
structure WIx (P : Program) (w : World) (K : Frag) (n : Nat) (H : Hp) (d qa : Addr) (S : List WE) (H' G : Hp) (es : List Ent) (qs : List Addr) : Prop where
  hg : Ex H G
  gd : G d = none
  gq : G qa = none
  gh : Ex G H'
  hq : H' qa = some (.lst (qs.map V.ref))
  hd : H' d = some (DD P w d (xsOf es))
  sys : (d == sysModules) = false
  kt : ∀ e, e ∈ es → KT G e.2.1 e.1
  hes : Paired (fun e s => e.1 = nmE n s ∧ OLI H G e.2.2 (nI s.1)) es S
  hqs : Paired (fun q s => ∃ wy fm, G q = some (.tup [.ref wy, .ref fm]) ∧ G wy = some (.lst ((nI s.1).map V.int)) ∧ LLI K G fm (Fm n s.2)) qs S
section
variable {P : Program} {w : World} {K : Frag} {n : Nat} {H H' H4 H7 G : Hp} {d qa b v p wy q : Addr} {S : List WE} {es : List Ent} {qs : List Addr} {s : WE}
theorem WIx.mono {H1 : Hp} (e : Ex H' H1) (h : WIx P w K n H d qa S H' G es qs) : WIx P w K n H d qa S H1 G es qs := ⟨h.hg, h.gd, h.gq, h.gh.trans e, e _ _ h.hq, e _ _ h.hd, h.sys, h.kt, h.hes, h.hqs⟩
theorem WIx.dw (h : WIx P w K n H d qa S H' G es qs) : DW P w H' d es := ⟨h.hd, h.sys, fun e he => (h.kt e he).mono h.gh⟩
theorem WIx.names (h : WIx P w K n H d qa S H' G es qs) : es.map (·.1) = S.map (nmE n) := by
  have := h.hes
  clear h
  induction this with
  | nil => rfl
  | cons r t ih => rw [List.map_cons, List.map_cons, r.1, ih]
theorem WIx.len (h : WIx P w K n H d qa S H' G es qs) : es.length = S.length ∧ qs.length = S.length := ⟨h.hes.length, h.hqs.length⟩
theorem WIx.step (h : WIx P w K n H d qa S H' G es qs) (e4 : Ex H' H4) (hk : OKT H' H4 b (nmE n s)) (hv : H' v = none) (hv4 : H4 v = some (.lst ((nI s.1).map V.int))) (hp : OLLI H' H4 p (Fm n s.2))
    (e7 : Ex (upd H4 d (DD P w d (xsOf (es ++ [(nmE n s, b, v)])))) H7) (hw : H' wy = none) (hw7 : H7 wy = some (.lst ((nI s.1).map V.int))) (hq : H' q = none) (hq7 : H7 q = some (.tup [.ref wy, .ref p])) :
    WIx P w K n H d qa (S ++ [s]) (upd H7 qa (.lst ((qs ++ [q]).map V.ref))) (del H7 d qa) (es ++ [(nmE n s, b, v)]) (qs ++ [q]) := by
  have hdq : d ≠ qa := fun z => by
    have h1 := h.hd
    rw [z, h.hq] at h1
    cases h1
  have nd : ∀ {y : Addr}, H' y = none → y ≠ d ∧ y ≠ qa := fun {y} hy => ⟨fun z => (by subst z; rw [h.hd] at hy; cases hy), fun z => (by subst z; rw [h.hq] at hy; cases hy)⟩
  have c4 : ∀ {y : Addr} {o : HO}, H' y = none → H4 y = some o → del H7 d qa y = some o := fun {y o} hy h4 => by
    obtain ⟨n1, n2⟩ := nd hy
    rw [del_ne n1 n2]
    exact e7 _ _ (by rw [upd_ne n1]; exact h4)
  have c7 : ∀ {y : Addr} {o : HO}, H' y = none → H7 y = some o → del H7 d qa y = some o := fun {y o} hy h4 => by
    obtain ⟨n1, n2⟩ := nd hy
    rw [del_ne n1 n2]
    exact h4
  have eG : Ex G (del H7 d qa) := fun y o hy => by
    have n1 : y ≠ d := fun z => by subst z; rw [h.gd] at hy; cases hy
    have n2 : y ≠ qa := fun z => by subst z; rw [h.gq] at hy; cases hy
    rw [del_ne n1 n2]
    exact e7 _ _ (by rw [upd_ne n1]; exact e4 _ _ (h.gh _ _ hy))
  have eHG := h.hg.trans eG
  refine ⟨eHG, if_pos (.inl rfl), if_pos (.inr rfl), fun y o hy => ?_, upd_same, ?_, h.sys, fun e he => ?_, ?_, ?_⟩
  · by_cases c : y = qa
    · subst c
      rw [show del H7 d y y = none from if_pos (.inr rfl)] at hy
      cases hy
    · rw [upd_ne c]
      exact del_ex _ _ hy
  · rw [upd_ne hdq]
    exact e7 _ _ upd_same
  · rcases List.mem_append.mp he with he | he
    · exact (h.kt e he).mono eG
    · rw [List.mem_singleton] at he
      subst he
      obtain ⟨h0, as, h1, h2⟩ := hk
      exact ⟨as, c4 h0 h1, paired_mono h2 fun _ _ z => c4 z.1 z.2⟩
  · refine paired_append (paired_mono h.hes fun e s z => ⟨z.1, z.2.mono eG⟩) (.cons ⟨rfl, ?_, c4 hv hv4⟩ .nil)
    exact fresh_back (h.hg.trans h.gh) hv
  · refine paired_append (paired_mono h.hqs fun q s ⟨wy, fm, z1, z2, z3⟩ => ⟨wy, fm, eG _ _ z1, eG _ _ z2, z3.mono eG⟩) (.cons ⟨wy, p, c7 hq hq7, c7 hw hw7, ?_⟩ .nil)
    obtain ⟨as, h0, h1, _, h2⟩ := hp
    exact ⟨as, sq_of (c4 h0 h1), paired_mono h2 fun _ _ z => sq_of (c4 z.1 z.2)⟩
end
end AT

/-! ## ways_from -/
namespace AT
open PySem PySem.Spec PyProof.Rows L2 Evl
section
variable {P : Program} {w : World} {K : Frag} {σ : St} {H H' H1 : Hp} {te ta tb tk to : TE} {a d b p q : Addr} {D : Ends} {tz : TS} {M : Mat} {es : List Ent}
theorem q_dictW {i : Nat} (k : ∀ d, H d = none → (d == sysModules) = false → tz D (σ.set i (some (.ref d))) (upd H d (DD P w d []))) : tSeq (tAsg (tDictW P w) (gName i)) tz D σ H := fun d hd hs => k d hd hs
theorem q_setW {xs : List Int} {Rk : R3} (mR : Mon Rk) (hK : ∀ G1 G2 v, Rk G1 G2 v → ∃ b, v = .ref b ∧ KT G2 b M) (hv : Er te σ H (RL xs)) (ho : Ev to σ H (.ref d)) (hk : Er tk σ H Rk) (hd : DW P w H d es) (hM : M ∉ es.map (·.1)) (hl : es.length < 10000)
    (k : ∀ v b H4, Ex H H4 → H v = none → H4 v = some (.lst (xs.map V.int)) → Rk H H4 (.ref b) → tz D σ (upd H4 d (DD P w d (xsOf (es ++ [(M, b, v)]))))) : tSeq (tAsg te (gSub to tk (rSetW P w))) tz D σ H :=
  hv H (Ex.refl _) _ fun v H2 e2 ⟨y, hy, hO⟩ => ho H2 e2 _ fun H3 e3 => hk H3 (e2.trans e3) _ fun v3 H4 e4 r => by
    subst hy
    obtain ⟨b, rfl, hb⟩ := hK _ _ _ r
    have e24 := (e2.trans e3).trans e4
    exact ⟨d, b, es, M, y, rfl, rfl, rfl, hd.mono e24, hb, hM, hl, k y b H4 e24 hO.1 ((e3.trans e4) _ _ hO.2) (mR.dn (e2.trans e3) r)⟩
theorem s_appE {l : Addr} {vs : List V} {R : R3} (mR : Mon R) (hl : H l = some (.lst vs)) (ha : Ev ta σ H (.ref l)) (h : Er te σ H R) (hz : vs.length < 100000) (k : ∀ v H1, Ex H H1 → R H H1 v → D.nx σ (upd H1 l (.lst (vs ++ [v])))) :
    tDrop (tBM K "list" rAppend ta (tCons te tNil)) D σ H := ha H (Ex.refl H) _ fun H1 e => ⟨.inl ⟨rfl, vs, sq_of (e _ _ hl)⟩, h H1 e _ fun v H2 e2 r => ⟨l, vs, v, rfl, rfl, (e.trans e2) _ _ hl, sz_lt hz, k v H2 (e.trans e2) (mR.dn e r)⟩⟩
/-- (a new list of ints, p) -/
def RQ (xs : List Int) (p : Addr) : R3 := fun H1 H2 v => ∃ q wy, v = .ref q ∧ H1 q = none ∧ H2 q = some (.tup [.ref wy, .ref p]) ∧ H1 wy = none ∧ H2 wy = some (.lst (xs.map V.int))
theorem mon_RQ {xs : List Int} {p : Addr} : Mon (RQ xs p) := ⟨fun e ⟨q, wy, h, h1, h2, h3, h4⟩ => ⟨q, wy, h, h1, e _ _ h2, h3, e _ _ h4⟩, fun e ⟨q, wy, h, h1, h2, h3, h4⟩ => ⟨q, wy, h, fresh_back e h1, h2, fresh_back e h3, h4⟩⟩
theorem er_tupQ {xs : List Int} (h1 : Er ta σ H (RL xs)) (h2 : Ev tb σ H (.ref p)) : Er (tTup (tCons ta (tCons tb tNil))) σ H (RQ xs p) := fun H1 e Q q =>
  h1 H1 e _ fun v H2 e2 ⟨y, hy, hO⟩ => h2 H2 (e.trans e2) _ fun H3 e3 => by
    subst hy
    refine ⟨by show 2 ≤ sizeLine; decide, fun t ht => ?_⟩
    have et := Ex.new (o := .tup [.ref y, .ref p]) ht
    exact q _ _ ((e2.trans e3).trans et) ⟨t, y, rfl, fresh_back (e2.trans e3) ht, upd_same, hO.1, (e3.trans et) _ _ hO.2⟩
/-- [q] -/
theorem er_lstQ {R : R3} (mR : Mon R) (h1 : Er ta σ H R) : Er (tLst (tCons ta tNil)) σ H (fun H1 H2 v => ∃ l x, v = .ref l ∧ H1 l = none ∧ H2 l = some (.lst [x]) ∧ R H1 H2 x) := fun H1 e Q q =>
  h1 H1 e (fun x H2 => [x].length ≤ sizeLine ∧ ∀ p, H2 p = none → Q (.ref p) (upd H2 p (.lst [x]))) fun v H2 e2 r => ⟨by show 1 ≤ sizeLine; decide, fun l hl => by
    have el := Ex.new (o := .lst [v]) hl
    exact q _ _ (e2.trans el) ⟨l, v, rfl, fresh_back e2 hl, upd_same, mR.up el r⟩⟩
theorem rv_ninW (hb : KT H b M) (hd : DW P w H d es) : RV (rNinW P w) (.ref b) (.ref d) H (.bl (!decide (M ∈ es.map (·.1)))) := fun G g Q k => ⟨b, d, es, M, rfl, rfl, hd.mono g, hb.mono g, k G (Ex.refl _)⟩
theorem ev_lenW (ha : Ev ta σ H (.ref d)) (hd : DW P w H d es) (hl : es.length ≤ 10000) : Ev (tCB (rLenW P w) (tCons ta tNil)) σ H (.int (es.length : Int)) := fun H1 e Q q =>
  ha H1 e _ fun H2 e2 => ⟨d, es, rfl, hd.mono (e.trans e2), hl, q H2 e2⟩
theorem WIx.init {n : Nat} {f : Fun2} {v qa q wy : Addr} {H4 H5 : Hp} (hd0 : H d = none) (hs : (d == sysModules) = false) (e4 : Ex (upd H d (DD P w d [])) H4) (hk : OKT H H4 b (leastM n f)) (hbd : ∀ y, H y = none → H4 y ≠ none → y ≠ d → True) (hkd : OKT (upd H d (DD P w d [])) H4 b (leastM n f)) (hv : upd H d (DD P w d []) v = none) (hv4 : H4 v = some (.lst []))
    (e5 : Ex (upd H4 d (DD P w d (xsOf [(leastM n f, b, v)]))) H5) (hqa0 : upd H4 d (DD P w d (xsOf [(leastM n f, b, v)])) qa = none) (hqa : H5 qa = some (.lst [.ref q])) (hq0 : upd H4 d (DD P w d (xsOf [(leastM n f, b, v)])) q = none) (hq : H5 q = some (.tup [.ref wy, .ref a])) (hw0 : upd H4 d (DD P w d (xsOf [(leastM n f, b, v)])) wy = none) (hw : H5 wy = some (.lst [])) (hM : LLI K H a (Fm n f)) :
    WIx P w K n H d qa [([], f)] H5 (del H5 d qa) [(leastM n f, b, v)] [q] := by
  have fr : ∀ {y : Addr}, upd H4 d (DD P w d (xsOf [(leastM n f, b, v)])) y = none → y ≠ d ∧ H4 y = none := fun {y} h => by
    by_cases c : y = d
    · subst c
      rw [upd_same] at h
      cases h
    · rw [upd_ne c] at h
      exact ⟨c, h⟩
  have fr0 : ∀ {y : Addr}, upd H d (DD P w d []) y = none → y ≠ d ∧ H y = none := fun {y} h => by
    by_cases c : y = d
    · subst c
      rw [upd_same] at h
      cases h
    · rw [upd_ne c] at h
      exact ⟨c, h⟩
  have e04 : Ex H H4 := (Ex.new hd0).trans e4
  have hqd := (fr hqa0).1
  have nqa : ∀ {y : Addr} {o : HO}, H4 y = some o → y ≠ qa := fun {y o} h z => by
    subst z
    rw [(fr hqa0).2] at h
    cases h
  have c4 : ∀ {y : Addr} {o : HO}, y ≠ d → H4 y = some o → del H5 d qa y = some o := fun {y o} hy h => by
    rw [del_ne hy (nqa h)]
    exact e5 _ _ (by rw [upd_ne hy]; exact h)
  have eG : Ex H (del H5 d qa) := fun y o h => c4 (fun z => by subst z; rw [hd0] at h; cases h) (e04 _ _ h)
  refine ⟨eG, if_pos (.inl rfl), if_pos (.inr rfl), del_ex, hqa, e5 _ _ upd_same, hs, fun e he => ?_, .cons ⟨rfl, ?_⟩ .nil, .cons ⟨wy, a, ?_, ?_, hM.mono eG⟩ .nil⟩
  · rw [List.mem_singleton] at he
    subst he
    obtain ⟨h0, as, h1, h2⟩ := hkd
    exact ⟨as, c4 (fr0 h0).1 h1, paired_mono h2 fun _ _ z => c4 (fr0 z.1).1 z.2⟩
  · exact ⟨(fr0 hv).2, c4 (fr0 hv).1 hv4⟩
  · rw [del_ne (fr hq0).1 (fun z => by subst z; rw [hqa] at hq; cases hq)]
    exact hq
  · rw [del_ne (fr hw0).1 (fun z => by subst z; rw [hqa] at hw; cases hw)]
    exact hw
end
def sp_ways_from (P : Program) (w : World) (K : Frag) (CT : Addr) : Sp := fun vs H Q E => ∃ (a : Addr) (n : Nat) (f : Fun2), vs = [.ref a] ∧ LLI K H a (Fm n f) ∧ FormOf n f ∧ n ≤ 4 ∧ (20 < (waysL n f).length → ∀ H', Ex H H' → E (.ref CT) none H') ∧
  ((waysL n f).length ≤ 20 → ∀ H' d es, Ex H H' → DW P w H' d es → Paired (fun e s => e.1 = nmE n s ∧ OLI H H' e.2.2 (nI s.1)) es (waysL n f) → Q (.ref d) H')
section
variable {P : Program} {w : World} {K : Frag} {mg : Str → Option Value} {base : Heap} {k : Nat}
theorem ok_ways_from (T : Txt K mg) (G_must_be_few : FnOk P w K mg base (L2.CX P w) k T.f_must_be_few T.d_must_be_few ["form"] (sp_must_be_few K T.c_NoForm T.c_TooMany)) (G_key_of : FnOk P w K mg base CX0 k T.f_key_of T.d_key_of ["form"] (sp_key_of K)) (G_turned_by : FnOk P w K mg base CX0 k T.f_turned_by T.d_turned_by ["form", "box"] (sp_turned_by K)) :
    FnOk P w K mg base (L2.CX P w) (k + 1) T.f_ways_from T.d_ways_from ["form"] (sp_ways_from P w K T.c_TooMany) := by
  refine T.F_ways_from.okX sc_ways_from (fun vs H Q E h => ?_) (fun cdv A outer s H vs Q E hr h => ?_)
  · obtain ⟨a, n, f, rfl, _⟩ := h
    rfl
  obtain ⟨a, n, f, rfl, hM, hf, h4, q1, q2⟩ := h
  refine ⟨_, (pss_cons (ps_expr (pe_call G_must_be_few hr rfl T.m_must_be_few T.F_must_be_few.kp T.b_must_be_few .nil (passes_call (takes_of rfl rfl rfl rfl) (fun _ _ _ _ h => h)) (pa_cons (pv 0) pa_nil)))
      (pss_cons (ps_set (i := 1) sc_ways_from.nd rfl (.inl rfl) (pe_dictW P w))
      (pss_cons (ps_asg (pe_lst pa_nil) (pg_sub (pv 1) (pe_call G_key_of hr rfl T.m_key_of T.F_key_of.kp T.b_key_of .nil pass0 (pa_cons (pv 0) pa_nil)) (set_dictW P w hr.units65)))
      (pss_cons (ps_set (i := 2) sc_ways_from.nd rfl (.inl rfl) (pe_lst (pa_cons (pe_tup (pa_cons (pe_lst pa_nil) (pa_cons (pv 0) pa_nil))) pa_nil)))
      (pss_cons (ps_set (i := 3) sc_ways_from.nd rfl (.inl rfl) pe_int)
      (pss_cons (ps_while (passes_of rfl) (pt_cmpR op_lt (pv 3) (pe_callB (lenK K) rfl T.b_len PySem.boot_len (pa_cons (pv 2) pa_nil)) (nomark _))
        (pss_cons (ps_asg (pe_ix (ixL K) (pv 2) (pv 3) (fun _ _ => rfl)) (pg_tupK K (n := 2) rfl (pgs_cons (pg_name (i := 4) sc_ways_from.nd rfl (.inl rfl)) (pgs_cons (pg_name (i := 5) sc_ways_from.nd rfl (.inl rfl)) pgs_nil))))
      (pss_cons (ps_for (passes_of rfl) rfl (pi_range1 rfl T.b_range (pa_cons (pe_callB (lenK K) rfl T.b_len PySem.boot_len (pa_cons (pv 0) pa_nil)) pa_nil)) (pg_name (i := 6) sc_ways_from.nd rfl (.inl rfl))
        (pss_cons (ps_set (i := 7) sc_ways_from.nd rfl (.inl rfl) (pe_call G_turned_by hr rfl T.m_turned_by T.F_turned_by.kp T.b_turned_by .nil pass0 (pa_cons (pv 5) (pa_cons (pv 6) pa_nil))))
      (pss_cons (ps_set (i := 8) sc_ways_from.nd rfl (.inl rfl) (pe_call G_key_of hr rfl T.m_key_of T.F_key_of.kp T.b_key_of .nil pass0 (pa_cons (pv 7) pa_nil)))
      (pss_one (ps_if (pt_cmpR (op_ninW P w hr.units65) (pv 8) (pv 1) rfl)
        (pss_cons (ps_if (pt_cmpR op_eq (pe_callB (lenW P w) rfl T.b_len PySem.boot_len (pa_cons (pv 1) pa_nil)) (pe_glob (v := .int 20) rfl T.m_MOST_FORMS ⟨_, rfl⟩) (nomark _))
        (pss_one (ps_raise rfl (takes_of rfl rfl rfl rfl) (pmk_own PySem.F.excBase_ValueError T.x_TooMany.xn T.x_TooMany.g T.x_TooMany.kp (raises_own T.x_TooMany.bs T.x_TooMany.ty) rfl)))
        pss_nil)
      (pss_cons (ps_asg (pe_op op_cat (pv 4) (pe_lst (pa_cons (pv 6) pa_nil))) (pg_sub (pv 1) (pv 8) (set_dictW P w hr.units65)))
      (pss_one (ps_expr (bmK K PySem.F.plainAttrs_list PySem.F.slot_list_append PySem.F.type_list_append mt_append (pv 2) (pa_cons (pe_tup (pa_cons (pe_op op_cat (pv 4) (pe_lst (pa_cons (pv 6) pa_nil))) (pa_cons (pv 7) pa_nil))) pa_nil))))))
        pss_nil)))))
      (pss_one (ps_set (i := 3) sc_ways_from.nd rfl (.inl rfl) (pe_op op_add (pv 3) pe_int))))))
      (pss_one (ps_ret (pv 1))))))))), ?_⟩
  refine ⟨.ref a, rfl, a, _, rfl, hM, small_fm (by have := hf.2.1; omega), fun H1 e1 => ⟨fun z => absurd (fmI hf) z, fun n' f' e hf' => ?_⟩⟩
  obtain ⟨rfl, _⟩ := fm_inj e
  refine ⟨fun z => by omega, fun _ => ?_⟩
  clear e hf'
  dsimp only
  have hn1 := hf.1
  have hM1 := hM.mono e1
  refine q_dictW fun d hd0 hds => ?_
  have ed : Ex H1 (upd H1 d (DD P w d [])) := Ex.new hd0
  have hkey : ∀ (σ : St) (G : Hp) (x : Addr) (g : Fun2) (i : Nat), σ[i]? = some (some (.ref x)) → LLI K G x (Fm n g) → Er (tCall (sp_key_of K) [] E0 (tCons (tVar i) tNil)) σ G (RKT (leastM n g)) := fun σ G x g i hi hx =>
    er_call mon_RKT (ea_cons (ev_var hi) ea_nil) fun G1 g1 Q' q' E' => ⟨x, n, g, rfl, hx.mono g1, by omega, fun H' b e hO => q' _ H' e ⟨b, rfl, hO⟩⟩
  refine q_setW (P := P) (w := w) (es := []) (M := leastM n f) (xs := []) mon_RKT (fun G1 G2 v ⟨b, hb, hO⟩ => ⟨b, hb, hO.kt⟩) (er_of_evl (el_lst ea_nil (by decide))) (ev_var rfl) (hkey _ _ a f 0 rfl (hM1.mono ed)) ⟨upd_same, hds, fun e he => by cases he⟩ (by simp) (by decide) fun v b H4 e4 hv hv4 ⟨b', hb', hO⟩ => ?_
  cases hb'
  refine qr_asg (er_lstQ mon_RQ (er_tupQ (xs := []) (p := a) (er_of_evl (el_lst ea_nil (by decide))) (ev_var rfl))) fun vq H5 e5 ⟨qa, x, hvq, hqa0, hqa, q, wy, hx, hq0, hq, hw0, hw⟩ => ?_
  subst hvq; subst hx
  have W0 : WIx P w K n H1 d qa [([], f)] H5 (del H5 d qa) [(leastM n f, b, v)] [q] := WIx.init hd0 hds e4 (hO.back ed) (fun _ _ _ _ => trivial) hO hv hv4 e5 hqa0 hqa hq0 hq hw0 hw hM1
  refine q_asg ev_c fun H6 e6 => ?_
  have W1 := W0.mono e6
  have hqaH : H1 qa = none := by
    have h1 : H4 qa = none := by
      by_cases c : qa = d
      · subst c
        rw [upd_same] at hqa0
        cases hqa0
      · rw [upd_ne c] at hqa0
        exact hqa0
    exact fresh_back (ed.trans e4) h1
  refine q_while (fun m σ' H' => ∃ (i : Nat) (S : List WE) (G : Hp) (es : List Ent) (qs : List Addr) (x4 x5 x6 x7 x8 : Option V), m = 21 - i ∧ σ' = [some (.ref a), some (.ref d), some (.ref qa), some (.int (i : Int)), x4, x5, x6, x7, x8] ∧ WIx P w K n H1 d qa S H' G es qs ∧ i ≤ S.length ∧ S.length ≤ 20 ∧ BitsS n S ∧ runW n (21 - i) i S = waysL n f) 21
    ⟨0, [([], f)], _, _, _, _, _, _, _, _, rfl, rfl, W1, by simp, by simp, bits_form hf, rfl⟩ (fun m σ' H' hW => ?_)
  obtain ⟨i, S, G, es, qs, x4, x5, x6, x7, x8, rfl, rfl, W, hiS, hS20, hB, hrun⟩ := hW
  have hlen := W.len
  refine ⟨_, et_test (ev_op (ev_var (v := .int (i : Int)) rfl) (ev_len (ev_var (v := .ref qa) rfl) (sq_of W.hq)) rv_I0), fun hb H7 e7 => ?_, fun hb H7 e7 => ?_⟩
  · rw [decide_eq_true_eq, List.length_map, hlen.2] at hb
    have hi : i < S.length := by omega
    have hi20 : i < 20 := by omega
    have hrun1 : runW n (21 - (i + 1)) (i + 1) (stepA n i S) = waysL n f := by
      rw [← hrun]
      have : 21 - i = (21 - (i + 1)) + 1 := by omega
      rw [this]
      show _ = (if i < S.length ∧ S.length ≤ 20 then _ else _)
      rw [if_pos ⟨hi, hS20⟩]
    refine ⟨fun σ2 H2 => ∃ m', m' < 21 - i ∧ ∃ (i : Nat) (S : List WE) (G : Hp) (es : List Ent) (qs : List Addr) (x4 x5 x6 x7 x8 : Option V), m' = 21 - i ∧ σ2 = [some (.ref a), some (.ref d), some (.ref qa), some (.int (i : Int)), x4, x5, x6, x7, x8] ∧ WIx P w K n H1 d qa S H2 G es qs ∧ i ≤ S.length ∧ S.length ≤ 20 ∧ BitsS n S ∧ runW n (21 - i) i S = waysL n f, fun _ _ h => h, ?_⟩
    have W7 := W.mono e7
    obtain ⟨s, hs⟩ : ∃ s, S[i]? = some s := ⟨_, List.getElem?_eq_getElem hi⟩
    have hsD : S.getD i we0 = s := by rw [List.getD_eq_getElem?_getD, hs]; rfl
    obtain ⟨q', hq', wy', fm, hz1, hz2, hz3⟩ := paired_get W7.hqs hs
    refine (ev_op (ta := tVar 2) (tb := tVar 3) (r := rIxL K) (σ := [some (.ref a), some (.ref d), some (.ref qa), some (.int (i : Int)), x4, x5, x6, x7, x8]) (H := H7) (x := .ref qa) (y := .int (i : Int)) (z := .ref q') (ev_var rfl) (ev_var rfl) (rv_ixL (sq_of W7.hq) (atI_n (by rw [List.getElem?_map, hq']; rfl)))) H7 (Ex.refl _) _ fun H8 e8 => ?_
    have W8 := W7.mono e8
    refine ⟨q', [.ref wy', .ref fm], rfl, st_of (W8.gh _ _ hz1), rfl, .ref wy', [.ref fm], rfl, .ref fm, [], rfl, rfl, ?_⟩
    refine q_forR1 (n := (n : Int)) (ea_cons (ev_lenFm (ev_var (v := .ref a) rfl) (hM1.mono (W8.hg.trans W8.gh))) ea_nil) (by omega) (fun j σ' H' => ∃ (G' : Hp) (es : List Ent) (qs : List Addr) (x6 x7 x8 : Option V), σ' = [some (.ref a), some (.ref d), some (.ref qa), some (.int (i : Int)), some (.ref wy'), some (.ref fm), x6, x7, x8] ∧ Ex G G' ∧ WIx P w K n H1 d qa ((List.range j).foldl (stepB n s) S) H' G' es qs ∧ ((List.range j).foldl (stepB n s) S).length ≤ 20 ∧ BitsS n ((List.range j).foldl (stepB n s) S))
      (fun H9 e9 => ⟨G, es, qs, _, _, _, rfl, Ex.refl _, W8.mono e9, hS20, hB⟩) (fun j σ' H9 hj hP => ?_) (fun σ' H9 hP => ?_)
    · obtain ⟨G', es, qs, x6, x7, x8, rfl, eG, W, hS20, hB⟩ := hP
      have hjn : j < n := by omega
      have hsj : ((List.range j).foldl (stepB n s) S)[i]? = some s := by
        obtain ⟨t, ht⟩ := fold_pre (n := n) (e := s) (List.range j) S
        rw [← ht, List.getElem?_append_left hi]
        exact hs
      have hstep := range_fold n s S j
      have hBj := bits_step hB hsj hjn
      have htot : isNew n ((List.range j).foldl (stepB n s) S) (addE s j) = true → ((List.range j).foldl (stepB n s) S).length = 20 → 20 < (waysL n f).length := fun h1 h2 => by
        have h3 : 20 < (stepA n i S).length := by
          unfold stepA
          rw [hsD, range_split (show j + 1 ≤ n by omega) s S n, hstep]
          have h4 : 20 < (stepB n s ((List.range j).foldl (stepB n s) S) j).length := by
            rw [stepB_add h1 (by omega), List.length_append, h2]
            exact Nat.lt_succ_self 20
          rw [fold_stuck h4]
          exact h4
        rw [← hrun1, runW_stuck h3]
        exact h3
      generalize (List.range j).foldl (stepB n s) S = Sj at *
      have hfm : LLI K H9 fm (Fm n s.2) := (hz3.mono eG).mono W.gh
      have hwy : H9 wy' = some (.lst ((nI s.1).map V.int)) := W.gh _ _ (eG _ _ hz2)
      have hsl : s.1.length ≤ 100 := by have := (hB i s hsj).2; omega
      refine qr_asg (er_call mon_RM (R := RM (Fm n (turnF s.2 j))) (ea_cons (ev_var (v := .ref fm) rfl) (ea_cons (ev_var (v := .int (j : Int)) rfl) ea_nil)) fun G1 g1 Q' q' E' => ⟨fm, n, s.2, j, bI i, rfl, hfm.mono g1, by omega, hjn, (hB i s hsj).1.to (by omega), fun H' p e hO => q' _ H' e ⟨p, rfl, hO⟩⟩) fun v H10 e10 ⟨p, hv, hOp⟩ => ?_
      subst hv
      refine qr_asg (hkey _ _ p (turnF s.2 j) 7 rfl hOp.lli) fun v H11 e11 ⟨bk, hv, hOk⟩ => ?_
      subst hv
      have e911 := e10.trans e11
      have W11 := W.mono e911
      have hnm : nmE n (addE s j) = leastM n (turnF s.2 j) := rfl
      refine s_when (b := isNew n Sj (addE s j)) (et_is (et_test (ev_op (ev_var (v := .ref bk) rfl) (ev_var (v := .ref d) rfl) (rv_ninW hOk.kt W11.dw))) (by rw [W11.names]; rfl)) (fun hb H12 e12 => ?_) (fun hb H12 e12 => ?_)
      · have W12 := W11.mono e12
        have hnin : leastM n (turnF s.2 j) ∉ es.map (·.1) := by
          rw [W12.names]
          unfold isNew at hb
          rw [Bool.not_eq_true', decide_eq_false_iff_not] at hb
          exact hb
        refine q_when (b := decide (Sj.length = 20)) (et_is (et_test (ev_op (ev_lenW (ev_var (v := .ref d) rfl) W12.dw (by rw [W12.len.1]; omega)) ev_c (rv_eq rfl))) (by rw [W12.len.1, decide_eq_decide]; exact ⟨fun h => by injection h; omega, fun h => by rw [h]; rfl⟩)) (fun hb2 H13 e13 => ?_) (fun hb2 H13 e13 => ?_)
        · rw [decide_eq_true_eq] at hb2
          exact q1 (htot hb hb2) H13 (e1.trans ((W12.hg.trans W12.gh).trans e13))
        · rw [decide_eq_false_iff_not] at hb2
          have W13 := W12.mono e13
          have e913 := (e911.trans e12).trans e13
          have e1113 := e12.trans e13
          have hwy13 := e913 _ _ hwy
          refine q_setW (P := P) (w := w) (es := es) (M := leastM n (turnF s.2 j)) (xs := nI s.1 ++ [(j : Int)]) (Rk := fun _ G2 v => v = .ref bk ∧ KT G2 bk (leastM n (turnF s.2 j))) ⟨fun e r => ⟨r.1, r.2.mono e⟩, fun _ r => r⟩ (fun G1 G2 v r => ⟨bk, r.1, r.2⟩) (er_catI (ev_var (v := .ref wy') rfl) hwy13 (ev_var (v := .int (j : Int)) rfl) (by rw [nI_len]; omega)) (ev_var (v := .ref d) rfl)
            (fun G1 g1 Q' q' => ⟨.ref bk, rfl, q' _ G1 (Ex.refl _) ⟨rfl, (hOk.kt.mono e1113).mono g1⟩⟩) W13.dw hnin (by rw [W13.len.1]; omega) fun v b' H14 e14 hv hv14 ⟨hb', _⟩ => ?_
          cases hb'
          have hxs : nI s.1 ++ [(j : Int)] = nI (addE s j).1 := by unfold nI addE; rw [List.map_append]; rfl
          rw [hxs] at hv14
          have e914 := e913.trans e14
          have hdn : ∀ y, upd H14 d (DD P w d (xsOf (es ++ [(leastM n (turnF s.2 j), bk, v)]))) y = none → H9 y = none := fun y hy => by
            by_cases c : y = d
            · subst c
              rw [upd_same] at hy
              cases hy
            · rw [upd_ne c] at hy
              exact fresh_back e914 hy
          have hwy14 : upd H14 d (DD P w d (xsOf (es ++ [(leastM n (turnF s.2 j), bk, v)]))) wy' = some (.lst ((nI s.1).map V.int)) := by
            rw [upd_ne]
            · exact e14 _ _ hwy13
            · intro c
              have := W13.hd
              rw [← c, hwy13] at this
              cases this
          have hqa14 : upd H14 d (DD P w d (xsOf (es ++ [(leastM n (turnF s.2 j), bk, v)]))) qa = some (.lst (qs.map V.ref)) := by
            rw [upd_ne]
            · exact e14 _ _ W13.hq
            · intro c
              have := W13.hd
              rw [← c, W13.hq] at this
              cases this
          refine s_appE mon_RQ (vs := qs.map V.ref) hqa14 (ev_var (v := .ref qa) rfl) (er_tupQ (xs := nI s.1 ++ [(j : Int)]) (p := p) (er_catI (ev_var (v := .ref wy') rfl) hwy14 (ev_var (v := .int (j : Int)) rfl) (by rw [nI_len]; omega)) (ev_var (v := .ref p) rfl)) (by rw [List.length_map, W13.len.2]; omega) fun x H15 e15 ⟨q9, wy9, hx, hq90, hq9, hw90, hw9⟩ => ?_
          subst hx
          rw [hxs] at hw9
          have WW := W.step (s := addE s j) (b := bk) (v := v) (p := p) (wy := wy9) (q := q9) e914 (((hOk.back e10).mono e1113).mono e14) (fresh_back e913 hv) hv14 (hOp.mono (e11.trans (e1113.trans e14))) e15 (hdn _ hw90) hw9 (hdn _ hq90) hq9
          have hSj : stepB n s Sj j = Sj ++ [addE s j] := if_pos ⟨hb, hS20⟩
          rw [List.map_append] at WW
          refine ⟨_, _, _, _, _, _, rfl, ?_, by rw [hstep, hSj]; exact WW, by rw [hstep, hSj, List.length_append]; show Sj.length + 1 ≤ 20; omega, by rw [hstep]; exact hBj⟩
          exact fun y o hy => by
            have hy' := eG _ _ hy
            have n1 : y ≠ d := fun z => by subst z; rw [W.gd] at hy'; cases hy'
            have n2 : y ≠ qa := fun z => by subst z; rw [W.gq] at hy'; cases hy'
            rw [del_ne n1 n2]
            exact e15 _ _ (by rw [upd_ne n1]; exact e914 _ _ (W.gh _ _ hy'))
      · have hSj : stepB n s Sj j = Sj := if_neg fun z => by rw [hb] at z; exact Bool.noConfusion z.1
        exact ⟨G', es, qs, _, _, _, rfl, eG, by rw [hstep, hSj]; exact W11.mono e12, by rw [hstep, hSj]; exact hS20, by rw [hstep]; exact hBj⟩
    · obtain ⟨G', es, qs, x6, x7, x8, rfl, eG, W, hS20', hB'⟩ := hP
      have hst : (List.range (n : Int).toNat).foldl (stepB n s) S = stepA n i S := by unfold stepA; rw [hsD, Int.toNat_natCast]
      rw [hst] at W hS20' hB'
      refine s_asg (ev_op (ev_var (v := .int (i : Int)) rfl) ev_c rv_I0) fun H10 e10 => ⟨21 - (i + 1), by omega, i + 1, stepA n i S, G', es, qs, _, _, _, _, _, rfl, rfl, W.mono e10, ?_, hS20', hB', hrun1⟩
      have := (fold_pre (n := n) (e := S.getD i we0) (List.range n) S).length_le
      show i + 1 ≤ (stepA n i S).length
      unfold stepA
      omega
  · rw [decide_eq_false_iff_not, List.length_map, hlen.2] at hb
    have htot : waysL n f = S := by
      rw [← hrun]
      have : 21 - i = (20 - i) + 1 := by omega
      rw [this]
      exact if_neg fun z => by omega
    have W7 := W.mono e7
    refine s_ret (ev_var (v := .ref d) rfl) fun H8 e8 => ?_
    have W8 := W7.mono e8
    refine q2 (by rw [htot]; exact hS20) H8 d es (e1.trans (W8.hg.trans W8.gh)) W8.dw ?_
    rw [htot]
    exact paired_mono W8.hes fun e s z => ⟨z.1, (z.2.mono W8.gh).back e1⟩
end
end AT

/-! ## our own lists of matrices, all apart -/
namespace AT
open PySem PySem.Spec PyProof.Rows L2 Evl
def LL3 (K : Frag) (H : Hp) (a : Addr) (Ms : List Mat) : Prop := ∃ as : List Addr, SqL K H a (as.map V.ref) ∧ Paired (fun x M => LLI K H x M) as Ms
theorem LL3.mono {K : Frag} {H H1 : Hp} {a : Addr} {Ms : List Mat} (e : Ex H H1) (h : LL3 K H a Ms) : LL3 K H1 a Ms := by
  obtain ⟨as, h1, h2⟩ := h
  exact ⟨as, ex_l e h1, paired_mono h2 fun _ _ z => z.mono e⟩
abbrev Zz := Addr × List Addr
def fl3 (zs : List Zz) : List Addr := zs.flatMap fun z => z.1 :: z.2
def OM (H0 H : Hp) (z : Zz) (M : Mat) : Prop := H0 z.1 = none ∧ H z.1 = some (.lst (z.2.map V.ref)) ∧ Paired (fun x r => OLI H0 H x r) z.2 M
def OL3 (H0 H : Hp) (p : Addr) (Ms : List Mat) : Prop := ∃ zs : List Zz, H0 p = none ∧ H p = some (.lst (zs.map fun z => V.ref z.1)) ∧ (p :: fl3 zs).Nodup ∧ Paired (OM H0 H) zs Ms
section
variable {K : Frag} {H H0 H1 Hb Hc : Hp} {p q x : Addr} {z : Zz} {M : Mat} {Ms : List Mat} {zs : List Zz}
theorem OM.mono (e : Ex H H1) (h : OM H0 H z M) : OM H0 H1 z M := ⟨h.1, e _ _ h.2.1, paired_mono h.2.2 fun _ _ w => w.mono e⟩
theorem OM.back (e : Ex H0 H1) (h : OM H1 H z M) : OM H0 H z M := ⟨fresh_back e h.1, h.2.1, paired_mono h.2.2 fun _ _ w => w.back e⟩
theorem OL3.mono (e : Ex H H1) (h : OL3 H0 H p Ms) : OL3 H0 H1 p Ms := by
  obtain ⟨zs, h0, h1, h2, h3⟩ := h
  exact ⟨zs, h0, e _ _ h1, h2, paired_mono h3 fun _ _ w => w.mono e⟩
theorem OL3.back (e : Ex H0 H1) (h : OL3 H1 H p Ms) : OL3 H0 H p Ms := by
  obtain ⟨zs, h0, h1, h2, h3⟩ := h
  exact ⟨zs, fresh_back e h0, h1, h2, paired_mono h3 fun _ _ w => w.back e⟩
theorem OM.lli (h : OM H0 H z M) : LLI K H z.1 M := ⟨z.2, sq_of h.2.1, paired_mono h.2.2 fun _ _ w => w.li⟩
theorem OL3.ll3 (h : OL3 H0 H p Ms) : LL3 K H p Ms := by
  obtain ⟨zs, h0, h1, h2, h3⟩ := h
  refine ⟨zs.map (·.1), sq_of (by rw [h1, List.map_map]; rfl), ?_⟩
  have := paired_map (F := fun x M => LLI K H x M) (f := fun z : Zz => z.1) (g := fun M : Mat => M) (fun z M w => w.lli) h3
  simpa using this
theorem OL3.len (h : OL3 H0 H p Ms) : ∃ vs : List V, H p = some (.lst vs) ∧ vs.length = Ms.length := by
  obtain ⟨zs, h0, h1, h2, h3⟩ := h
  exact ⟨_, h1, by rw [List.length_map, h3.length]⟩
theorem OL3.nil (h0 : H0 p = none) (h : H p = some (.lst [])) : OL3 H0 H p [] := ⟨[], h0, h, by simp [fl3], .nil⟩
theorem fl3_mem {zs : List Zz} {x : Addr} : x ∈ fl3 zs ↔ ∃ z, z ∈ zs ∧ (x = z.1 ∨ x ∈ z.2) := by
  unfold fl3
  simp only [List.mem_flatMap, List.mem_cons]
theorem om_there (h : OM H0 H z M) : ∀ x, (x = z.1 ∨ x ∈ z.2) → H x ≠ none ∧ H0 x = none := fun x hx => by
  rcases hx with rfl | hx
  · exact ⟨(by rw [h.2.1]; exact Option.some_ne_none _), h.1⟩
  · obtain ⟨r, _, hr⟩ := paired_mem h.2.2 hx
    exact ⟨(by rw [hr.2]; exact Option.some_ne_none _), hr.1⟩
theorem OL3.push (h : OL3 H0 Hb p Ms) (e0 : Ex H0 Hb) (e : Ex Hb Hc) (hq : OLLI Hb Hc q M) : ∃ vs : List V, Hc p = some (.lst vs) ∧ vs.length = Ms.length ∧ OL3 H0 (upd Hc p (.lst (vs ++ [.ref q]))) p (Ms ++ [M]) ∧ Ex H0 (upd Hc p (.lst (vs ++ [.ref q]))) := by
  obtain ⟨zs, h0, h1, h2, h3⟩ := h
  obtain ⟨rs, g0, g1, g2, g3⟩ := hq
  have hOM : OM Hb Hc (q, rs) M := ⟨g0, g1, g3⟩
  have old : ∀ x, x ∈ p :: fl3 zs → Hb x ≠ none := fun x hx => by
    rcases List.mem_cons.mp hx with rfl | hx
    · rw [h1]; exact fun c => nomatch c
    · obtain ⟨z, hz, hxz⟩ := fl3_mem.mp hx
      obtain ⟨M', _, hM'⟩ := paired_mem h3 hz
      exact (om_there hM' x hxz).1
  have new : ∀ x, x ∈ q :: rs → Hb x = none := fun x hx => (om_there hOM x (List.mem_cons.mp hx)).2
  refine ⟨_, e _ _ h1, by rw [List.length_map, h3.length], ⟨zs ++ [(q, rs)], h0, ?_, ?_, ?_⟩, Ex.mut (e0.trans e) h0⟩
  · rw [upd_same, List.map_append]; rfl
  · have hf : fl3 (zs ++ [(q, rs)]) = fl3 zs ++ (q :: rs) := by unfold fl3; rw [List.flatMap_append]; simp
    rw [hf, ← List.cons_append, List.nodup_append]
    exact ⟨h2, g2, fun x hx y hy c => by
      subst c
      exact old x hx (new x hy)⟩
  · have h4 : Paired (OM H0 Hc) (zs ++ [(q, rs)]) (Ms ++ [M]) := paired_append (paired_mono h3 fun _ _ w => w.mono e) (.cons (hOM.back e0) .nil)
    rw [List.nodup_cons] at h2
    refine paired_mem_mono h4 fun z N hz w => ?_
    have hne : ∀ x, (x = z.1 ∨ x ∈ z.2) → x ≠ p := fun x hx c => by
      subst c
      rcases List.mem_append.mp hz with hz | hz
      · exact h2.1 (fl3_mem.mpr ⟨z, hz, hx⟩)
      · rw [List.mem_singleton] at hz
        subst hz
        exact old x List.mem_cons_self (new x (List.mem_cons.mpr hx))
    exact ⟨w.1, by rw [upd_ne (hne _ (.inl rfl))]; exact w.2.1, paired_mem_mono w.2.2 fun x r hx hr => ⟨hr.1, by rw [upd_ne (hne _ (.inr hx))]; exact hr.2⟩⟩
def R3M (Ms : List Mat) : R3 := fun H1 H2 v => ∃ p, v = .ref p ∧ OL3 H1 H2 p Ms
theorem mon_R3M {Ms : List Mat} : Mon (R3M Ms) := ⟨fun e ⟨p, h, q⟩ => ⟨p, h, q.mono e⟩, fun e ⟨p, h, q⟩ => ⟨p, h, q.back e⟩⟩
end
section
variable {K : Frag} {σ : St} {H : Hp} {te tl : TE}
/-- a list of new matrices over what tl makes -/
theorem er_lc3 {R0 : R3} {j : Nat} {vs : List Nat} (Ms : List Mat) (h : Er tl σ H R0) (hz : Ms.length ≤ 10000) (hw : ∀ x, wipe ((wipe σ vs).set j (some x)) vs = wipe σ vs)
    (hs : ∀ H1 H2 v, Ex H H1 → Ex H1 H2 → R0 H1 H2 v → ∃ a xs, v = .ref a ∧ SqL K H2 a xs ∧ xs.length = Ms.length ∧ ∀ (i : Nat) x M H3, xs[i]? = some x → Ms[i]? = some M → Ex H2 H3 → Er te ((wipe σ vs).set j (some x)) H3 (RM M)) :
    Er (tLc (iList K tl) (gName j) tYes te vs) σ H (R3M Ms) := fun H0 e Q q => h H0 e _ fun v H1 e1 r => by
  obtain ⟨a, xs, ev, hx, hn, hi⟩ := hs H0 H1 v e e1 r
  subst ev
  exact ⟨a, rfl, ⟨xs, hx⟩, fun Dl hD =>
    lc_list (xs := xs) (fun i H' => Ex H1 H' ∧ OL3 H1 H' Dl (Ms.take i)) ⟨Ex.new hD, .nil hD upd_same⟩ (fun i H' _ p => ex_l p.1 hx) (fun i x H' hj p => ⟨hw x, by
      obtain ⟨p1, p2⟩ := p
      have hil := (List.getElem?_eq_some_iff.mp hj).1
      obtain ⟨M, hM⟩ : ∃ M, Ms[i]? = some M := ⟨_, List.getElem?_eq_getElem (by omega)⟩
      show te _ H' fun y H4 => ∃ acc, H4 Dl = some (.lst acc) ∧ acc.length < sizeLine ∧ Ex H1 (upd H4 Dl (.lst (acc ++ [y]))) ∧ OL3 H1 (upd H4 Dl (.lst (acc ++ [y]))) Dl (Ms.take (i + 1))
      refine hi i x M H1 hj hM (Ex.refl _) H' p1 _ fun v H4 e4 ⟨y, hv, hy⟩ => ?_
      subst hv
      obtain ⟨ws, h1, h2, h3, h4⟩ := p2.push p1 e4 hy
      refine ⟨ws, h1, sz_lt (by rw [h2, List.length_take]; omega), h4, ?_⟩
      rw [List.take_add_one, hM]
      exact h3⟩)
      (fun H' p => q _ H' (e1.trans p.1) ⟨Dl, rfl, by
        have := p.2
        rw [hn, List.take_length] at this
        exact this.back e1⟩)⟩
/-- [list(row) for row in key] -/
theorem er_lists {j : Nat} {vs : List Nat} {b : Addr} {M : Mat} (h : Ev tl σ H (.ref b)) (hb : KT H b M) (hz : M.length ≤ 10000) (hw : ∀ x, wipe ((wipe σ vs).set j (some x)) vs = wipe σ vs) (hj : ∀ x, ((wipe σ vs).set j (some x))[j]? = some (some x)) :
    Er (tLc (iTup K tl) (gName j) tYes (tCB (rListS K) (tCons (tVar j) tNil)) vs) σ H (RM M) := fun H0 e Q q => h H0 e _ fun H1 e1 => by
  obtain ⟨as, h1, h2⟩ := (hb.mono (e.trans e1))
  have hl := h2.length
  exact ⟨b, rfl, ⟨_, st_of h1⟩, fun Dl hD =>
    lc_tup (xs := as.map V.ref) (fun i H' => Ex H1 H' ∧ OLLI H1 H' Dl (M.take i)) ⟨Ex.new hD, .nil hD upd_same⟩ (fun i H' _ p => st_of (p.1 _ _ h1)) (fun i x H' hi p => ⟨hw x, by
      obtain ⟨p1, p2⟩ := p
      rw [List.getElem?_map] at hi
      cases hy : as[i]? with
      | none => rw [hy] at hi; cases hi
      | some y =>
        rw [hy] at hi
        cases hi
        obtain ⟨r, hr1, hr2⟩ := paired_getL h2 hy
        have hil := (List.getElem?_eq_some_iff.mp hr1).1
        show (tCB (rListS K) (tCons (tVar j) tNil)) _ H' fun y H4 => ∃ acc, H4 Dl = some (.lst acc) ∧ acc.length < sizeLine ∧ Ex H1 (upd H4 Dl (.lst (acc ++ [y]))) ∧ OLLI H1 (upd H4 Dl (.lst (acc ++ [y]))) Dl (M.take (i + 1))
        refine ⟨.ref y, hj _, y, _, rfl, .inr (st_of (p1 _ _ hr2)), fun l hl => ?_⟩
        have el := Ex.new (o := .lst (r.map V.int)) hl
        obtain ⟨ws, g1, g2, g3, g4⟩ := p2.push p1 el hl upd_same
        refine ⟨ws, g1, sz_lt (by rw [g2, List.length_take]; omega), g4, ?_⟩
        rw [List.take_add_one, hr1]
        exact g3⟩)
      (fun H' p => q _ H' (e1.trans p.1) ⟨Dl, rfl, by
        have := p.2
        rw [List.length_map, hl, List.take_length] at this
        exact this.back e1⟩)⟩
end
end AT

/-! ## reach, way -/
namespace AT
open PySem PySem.Spec PyProof.Rows L2 Evl
/-- the least names that turns lead to, in order -/
def reachM (n : Nat) (f : Fun2) : List Mat := sortMat ((waysL n f).map (nmE n))
def sp_reach (K : Frag) (CT : Addr) : Sp := fun vs H Q E => ∃ (a : Addr) (n : Nat) (f : Fun2), vs = [.ref a] ∧ LLI K H a (Fm n f) ∧ FormOf n f ∧ n ≤ 4 ∧ (20 < (waysL n f).length → ∀ H', Ex H H' → E (.ref CT) none H') ∧
  ((waysL n f).length ≤ 20 → ∀ H' p, Ex H H' → OL3 H H' p (reachM n f) → Q (.ref p) H')
/-- the first way to a form with that least name -/
def wayTo (n : Nat) (f : Fun2) (M : Mat) : Option WE := (waysL n f).find? fun s => decide (nmE n s = M)
def sp_way (K : Frag) (CT : Addr) : Sp := fun vs H Q E => ∃ (a b : Addr) (n m : Nat) (f g : Fun2), vs = [.ref a, .ref b] ∧ LLI K H a (Fm n f) ∧ FormOf n f ∧ n ≤ 4 ∧ LLI K H b (Fm m g) ∧ FormOf m g ∧ (20 < (waysL n f).length → ∀ H', Ex H H' → E (.ref CT) none H') ∧
  ((waysL n f).length ≤ 20 → (n ≠ m → ∀ H', Ex H H' → Q .non H') ∧ (n = m → (wayTo n f (leastM n g) = none → ∀ H', Ex H H' → Q .non H') ∧ ∀ s, wayTo n f (leastM n g) = some s → ∀ H' p, Ex H H' → OLI H H' p (nI s.1) → Q (.ref p) H'))
theorem find_paired {n : Nat} {H H' : Hp} {M : Mat} : ∀ {es : List Ent} {S : List WE}, Paired (fun e s => e.1 = nmE n s ∧ OLI H H' e.2.2 (nI s.1)) es S →
    match es.find? (fun e => decide (e.1 = M)), S.find? (fun s => decide (nmE n s = M)) with
    | some e, some s => OLI H H' e.2.2 (nI s.1)
    | none, none => True
    | _, _ => False
  | _, _, .nil => trivial
  | e :: es, s :: S, .cons r t => by
    rw [List.find?_cons, List.find?_cons, r.1]
    by_cases c : nmE n s = M
    · simp only [c, decide_true]
      exact r.2
    · simp only [c, decide_false]
      exact find_paired t
theorem ents_names {n : Nat} {H H' : Hp} : ∀ {es : List Ent} {S : List WE}, Paired (fun e s => e.1 = nmE n s ∧ OLI H H' e.2.2 (nI s.1)) es S → es.map (·.1) = S.map (nmE n)
  | _, _, .nil => rfl
  | _, _, .cons r t => by rw [List.map_cons, List.map_cons, r.1, ents_names t]
section
variable {P : Program} {w : World} {K : Frag} {mg : Str → Option Value} {base : Heap} {k : Nat}
theorem sort_ents (es : List Ent) : (es.mergeSort leE).map (·.1) = sortMat (es.map (·.1)) := List.map_mergeSort fun _ _ _ _ => rfl
theorem ok_reach (T : Txt K mg) (G_ways_from : FnOk P w K mg base (L2.CX P w) k T.f_ways_from T.d_ways_from ["form"] (sp_ways_from P w K T.c_TooMany)) : FnOk P w K mg base (L2.CX P w) (k + 1) T.f_reach T.d_reach ["form"] (sp_reach K T.c_TooMany) := by
  refine T.F_reach.okX sc_reach (fun vs H Q E h => ?_) (fun cdv A outer s H vs Q E hr h => ?_)
  · obtain ⟨a, n, f, rfl, _⟩ := h
    rfl
  obtain ⟨a, n, f, rfl, hM, hf, h4, q1, q2⟩ := h
  refine ⟨_, (pss_one (ps_ret (pe_lc (own := [("key", 1)]) rfl sc_reach.nd (pi_listK K (pe_callB (sortedW P w rfl hr.units) rfl T.b_sorted (by decide +kernel) (pa_cons (pe_call G_ways_from hr rfl T.m_ways_from T.F_ways_from.kp T.b_ways_from .nil (passes_call (takes_of rfl rfl rfl rfl) (fun _ _ _ _ h => h)) (pa_cons (pv 0) pa_nil)) pa_nil))) (blkOk_by (own := [("key", 1)]) (N := N_reach) (sc := defScope s_reach) (by decide +kernel)) (fun _ _ _ _ _ => (pg_name (i := 1) sc_reach.nd rfl (.inl rfl))) (fun _ _ _ _ _ => pts_nil) (fun _ _ _ _ _ => (pe_lc (own := [("row", 2)]) rfl sc_reach.nd (pi_tupK K (pv 1)) (blkOk_by (own := [("row", 2)]) (N := N_reach) (sc := relS { kind := .function, names := [(PySem.Str.ofString ".0", PySem.NameKind.local), (PySem.Str.ofString "key", PySem.NameKind.local)], isGenerator := false, isCoroutine := false, more := [] } (defScope s_reach)) (by decide +kernel)) (fun _ _ _ _ _ => (pg_name (i := 2) sc_reach.nd rfl (.inl rfl))) (fun _ _ _ _ _ => pts_nil) (fun _ _ _ _ _ => (pe_callTy (listK K) rfl T.b_list (by decide +kernel) (pa_cons (pv 2) pa_nil)))))))), ?_⟩
  refine ⟨.ref a, rfl, a, n, f, rfl, hM, hf, h4, q1, fun h20 H1 d es e1 hd hes => ?_⟩
  have hel := hes.length
  have hne : ∀ e, e ∈ es → e.1 ≠ [] := fun e he z => by
    obtain ⟨s, _, hs, _⟩ := paired_mem hes he
    rw [z] at hs
    have := congrArg List.length hs
    unfold nmE at this
    rw [least_len] at this
    have := hf.1
    simp at *
    omega
  have hnm : es.map (·.1) = (waysL n f).map (nmE n) := ents_names hes
  refine ⟨d, es, rfl, hd, hne, by omega, fun p hp => ?_⟩
  have ep : Ex H1 (upd H1 p (.lst ((es.mergeSort leE).map fun e => V.ref e.2.1))) := Ex.new hp
  have hlen : (reachM n f).length = es.length := by unfold reachM sortMat; rw [List.length_mergeSort, List.length_map, hel]
  refine (er_lc3 (K := K) (σ := [some (V.ref a), none, none]) (H := upd H1 p (.lst ((es.mergeSort leE).map fun e => V.ref e.2.1))) (tl := fun σ H' Q => Q (.ref p) H') (te := tLc (iTup K (tVar 1)) (gName 2) tYes (tCB (rListS K) (tCons (tVar 2) tNil)) [2]) (j := 1) (vs := [1]) (R0 := fun _ H2 v => v = .ref p ∧ H2 p = some (.lst ((es.mergeSort leE).map fun e => V.ref e.2.1)) ∧ Ex H1 H2) (reachM n f) (fun G1 g1 Q' q' => q' _ G1 (Ex.refl _) ⟨rfl, g1 _ _ upd_same, ep.trans g1⟩) (by omega) (fun _ => rfl) (fun G1 G2 v g1 g2 ⟨hv, hp2, e12⟩ => ?_)) _ (Ex.refl _) _ fun v H3 e3 ⟨r, hv, hr⟩ => ?_
  · refine ⟨p, _, hv, sq_of hp2, by rw [List.length_map, List.length_mergeSort, hlen], fun i x M G3 hx hM' g3 => ?_⟩
    rw [List.getElem?_map] at hx
    cases hy : (es.mergeSort leE)[i]? with
    | none => rw [hy] at hx; cases hx
    | some e =>
      rw [hy] at hx
      cases hx
      have hM2 : e.1 = M := by
        unfold reachM at hM'
        rw [← hnm, ← sort_ents, List.getElem?_map, hy] at hM'
        exact Option.some.inj hM'
      have hem : e ∈ es := List.mem_mergeSort.mp (List.mem_of_getElem? hy)
      rw [← hM2]
      refine er_lists (ev_var rfl) ((hd.2.2 e hem).mono (e12.trans g3)) ?_ (fun _ => rfl) (fun _ => rfl)
      obtain ⟨s, _, hs, _⟩ := paired_mem hes hem
      rw [hs]
      unfold nmE
      rw [least_len]
      omega
  · subst hv
    exact q2 h20 H3 r (e1.trans (ep.trans e3)) ((hr.back ep).back e1)
end
end AT

/-! ## the law's own list of ways -/
namespace AT
open PySem PySem.Spec PyProof.Rows L2 Evl
def sp__law_least (K : Frag) : Sp := sp_least_by K
/-- what the law's list holds of one -/
def QW (K : Frag) (H : Hp) (n : Nat) (q : Addr) (s : WE) : Prop := ∃ wy nm fm, H q = some (.tup [.ref wy, .ref nm, .ref fm]) ∧ H wy = some (.lst ((nI s.1).map V.int)) ∧ LLI K H nm (nmE n s) ∧ LLI K H fm (Fm n s.2)
theorem QW.mono {K : Frag} {H H1 : Hp} {n : Nat} {q : Addr} {s : WE} (e : Ex H H1) (h : QW K H n q s) : QW K H1 n q s := by
  obtain ⟨wy, nm, fm, h1, h2, h3, h4⟩ := h
  exact ⟨wy, nm, fm, e _ _ h1, e _ _ h2, h3.mono e, h4.mono e⟩
def OWL (K : Frag) (n : Nat) (H0 H : Hp) (p : Addr) (S : List WE) : Prop := H0 p = none ∧ ∃ qs : List Addr, H p = some (.lst (qs.map V.ref)) ∧ Paired (QW K H n) qs S
theorem OWL.mono {K : Frag} {n : Nat} {H0 H H1 : Hp} {p : Addr} {S : List WE} (e : Ex H H1) (h : OWL K n H0 H p S) : OWL K n H0 H1 p S := by
  obtain ⟨h0, qs, h1, h2⟩ := h
  exact ⟨h0, qs, e _ _ h1, paired_mono h2 fun _ _ z => z.mono e⟩
def sp__law_ways (K : Frag) : Sp := fun vs H Q _ => ∃ (a : Addr) (n : Nat) (f : Fun2), vs = [.ref a] ∧ LLI K H a (Fm n f) ∧ FormOf n f ∧ n ≤ 4 ∧ ∀ H' p, Ex H H' → OWL K n H H' p (waysL n f) → Q (.ref p) H'
structure WLx (K : Frag) (n : Nat) (H : Hp) (wa : Addr) (S : List WE) (H' G : Hp) (qs : List Addr) : Prop where
  hg : Ex H G
  gq : G wa = none
  gh : Ex G H'
  hq : H' wa = some (.lst (qs.map V.ref))
  hqs : Paired (QW K G n) qs S
section
variable {K : Frag} {n : Nat} {H H' H1 H7 G : Hp} {wa p nm wy q : Addr} {S : List WE} {qs : List Addr} {s : WE} {σ : St} {ta tb tc te : TE}
theorem WLx.mono (e : Ex H' H1) (h : WLx K n H wa S H' G qs) : WLx K n H wa S H1 G qs := ⟨h.hg, h.gq, h.gh.trans e, e _ _ h.hq, h.hqs⟩
theorem WLx.step (h : WLx K n H wa S H' G qs) (e7 : Ex H' H7) (hp : OLLI H' H7 p (Fm n s.2)) (hn : OLLI H' H7 nm (nmE n s)) (hw : H' wy = none) (hw7 : H7 wy = some (.lst ((nI s.1).map V.int))) (hq : H' q = none) (hq7 : H7 q = some (.tup [.ref wy, .ref nm, .ref p])) :
    WLx K n H wa (S ++ [s]) (upd H7 wa (.lst ((qs ++ [q]).map V.ref))) (del H7 wa wa) (qs ++ [q]) := by
  have nd : ∀ {y : Addr}, H' y = none → y ≠ wa := fun {y} hy z => by subst z; rw [h.hq] at hy; cases hy
  have c7 : ∀ {y : Addr} {o : HO}, H' y = none → H7 y = some o → del H7 wa wa y = some o := fun {y o} hy h4 => by
    rw [del_ne (nd hy) (nd hy)]
    exact h4
  have eG : Ex G (del H7 wa wa) := ex_del (h.gh.trans e7) h.gq h.gq
  have cl : ∀ {y : Addr} {M : Mat}, OLLI H' H7 y M → LLI K (del H7 wa wa) y M := fun {y M} ho => by
    obtain ⟨as, h0, h1, _, h2⟩ := ho
    exact ⟨as, sq_of (c7 h0 h1), paired_mono h2 fun _ _ z => sq_of (c7 z.1 z.2)⟩
  refine ⟨h.hg.trans eG, if_pos (.inl rfl), fun y o hy => ?_, upd_same, paired_append (paired_mono h.hqs fun _ _ z => z.mono eG) (.cons ⟨wy, nm, p, c7 hq hq7, c7 hw hw7, cl hn, cl hp⟩ .nil)⟩
  have n1 : y ≠ wa := fun c => by
    subst c
    rw [show del H7 y y y = none from if_pos (.inl rfl)] at hy
    cases hy
  rw [upd_ne n1]
  exact del_ex _ _ hy
/-- a tuple (a new list, nm, p) -/
def RQ3 (xs : List Int) (nm p : Addr) : R3 := fun H1 H2 v => ∃ q wy, v = .ref q ∧ H1 q = none ∧ H2 q = some (.tup [.ref wy, .ref nm, .ref p]) ∧ H1 wy = none ∧ H2 wy = some (.lst (xs.map V.int))
theorem mon_RQ3 {xs : List Int} {nm p : Addr} : Mon (RQ3 xs nm p) := ⟨fun e ⟨q, wy, h, h1, h2, h3, h4⟩ => ⟨q, wy, h, h1, e _ _ h2, h3, e _ _ h4⟩, fun e ⟨q, wy, h, h1, h2, h3, h4⟩ => ⟨q, wy, h, fresh_back e h1, h2, fresh_back e h3, h4⟩⟩
theorem er_tupQ3 {xs : List Int} (h1 : Er ta σ H (RL xs)) (h2 : Ev tb σ H (.ref nm)) (h3 : Ev tc σ H (.ref p)) : Er (tTup (tCons ta (tCons tb (tCons tc tNil)))) σ H (RQ3 xs nm p) := fun H1 e Q q =>
  h1 H1 e _ fun v H2 e2 ⟨y, hy, hO⟩ => h2 H2 (e.trans e2) _ fun H3 e3 => h3 H3 ((e.trans e2).trans e3) _ fun H4 e4 => by
    subst hy
    refine ⟨by show 3 ≤ sizeLine; decide, fun t ht => ?_⟩
    have et := Ex.new (o := .tup [.ref y, .ref nm, .ref p]) ht
    exact q _ _ (((e2.trans e3).trans e4).trans et) ⟨t, y, rfl, fresh_back ((e2.trans e3).trans e4) ht, upd_same, hO.1, ((e3.trans e4).trans et) _ _ hO.2⟩
theorem er_lway0 {M : Mat} {a : Addr} (h1 : Er ta σ H (RL [])) (h2 : Er tb σ H (RM M)) (h3 : Ev tc σ H (.ref a)) : Er (tLst (tCons (tTup (tCons ta (tCons tb (tCons tc tNil)))) tNil)) σ H
    (fun H1 H2 v => ∃ wa q wy nm, v = .ref wa ∧ H1 wa = none ∧ H2 wa = some (.lst [.ref q]) ∧ H1 q = none ∧ H2 q = some (.tup [.ref wy, .ref nm, .ref a]) ∧ H1 wy = none ∧ H2 wy = some (.lst []) ∧ OLLI H1 H2 nm M) := fun G1 g1 Q' q' =>
  h1 G1 g1 _ fun v H2 e2 ⟨y, hy, hO⟩ => h2 H2 (g1.trans e2) _ fun v3 H3 e3 ⟨nm, hv, hN⟩ => h3 H3 ((g1.trans e2).trans e3) _ fun H4 e4 => by
    subst hy; subst hv
    refine ⟨by show 3 ≤ sizeLine; decide, fun t ht => ⟨by show 1 ≤ sizeLine; decide, fun l hl => ?_⟩⟩
    have et := Ex.new (o := .tup [.ref y, .ref nm, .ref a]) ht
    have el := Ex.new (o := .lst [.ref t]) hl
    have e24 := (e3.trans e4).trans (et.trans el)
    exact q' _ _ (e2.trans e24) ⟨l, t, y, nm, rfl, fresh_back (((e2.trans e3).trans e4).trans et) hl, upd_same, fresh_back ((e2.trans e3).trans e4) ht, el _ _ upd_same, hO.1, e24 _ _ hO.2, (hN.mono (e4.trans (et.trans el))).back e2⟩
theorem dpAll_Ms : ∀ {as : List Addr} {Ms : List Mat}, Paired (fun x M => LLI K H x M) as Ms → DpAll K H (as.map V.ref) (Ms.map fun M => .list (dM M))
  | _, _, .nil => .nil
  | _, _, .cons r t => .cons r.dp (dpAll_Ms t)
theorem canLay_Ms : ∀ Ms : List Mat, PyData.canLayAll0 (Ms.map fun M => PyData.list (dM M)) = true
  | [] => by simp [PyData.canLayAll0]
  | M :: Ms => by
    have h1 := canLay_rows M
    simp only [List.map_cons, PyData.canLayAll0, PyData.canLay0, h1, canLay_Ms Ms, Bool.and_self]
theorem depth_Ms : ∀ Ms : List Mat, PyData.depthAll (Ms.map fun M => PyData.list (dM M)) ≤ 3
  | [] => by simp [PyData.depthAll]
  | M :: Ms => by
    have h1 := depth_rows M
    have h2 := depth_Ms Ms
    simp only [List.map_cons, PyData.depthAll, PyData.depth]
    omega
theorem shaped_Ms (Ms : List Mat) : SeqAt.shaped (.list (Ms.map fun M => PyData.list (dM M))) = true := by
  unfold SeqAt.shaped
  rw [Bool.and_eq_true]
  have h2 := depth_Ms Ms
  refine ⟨by simp only [PyData.canLay0]; exact canLay_Ms Ms, decide_eq_true ?_⟩
  simp only [PyData.depth]
  omega
theorem any_Ms (M : Mat) : ∀ Ms : List Mat, ((Ms.map fun M => PyData.list (dM M)).any fun z => PyData.eqv z (.list (dM M))) = decide (M ∈ Ms)
  | [] => by simp
  | N :: Ms => by
    rw [List.map_cons, List.any_cons, any_Ms M Ms]
    show (PyData.eqvAll (dM N) (dM M) || decide (M ∈ Ms)) = _
    rw [eqv_M]
    by_cases h : N = M
    · subst h; simp
    · have : ¬ M = N := fun z => h z.symm
      simp [h, this]
theorem LL3.dp {a : Addr} {Ms : List Mat} (h : LL3 K H a Ms) : Dp K H (.ref a) (.list (Ms.map fun M => .list (dM M))) := by
  obtain ⟨as, h1, h2⟩ := h
  exact .lst h1 (dpAll_Ms h2)
theorem rv_ninMs {x a : Addr} {M : Mat} {Ms : List Mat} (hx : LLI K H x M) (ha : LL3 K H a Ms) : RV (rNotInD K) (.ref x) (.ref a) H (.bl (!decide (M ∈ Ms))) := fun G g Q k =>
  ⟨_, _, (hx.mono g).dp, (ha.mono g).dp, shaped_M M, shaped_Ms Ms, by rw [any_Ms]; exact k G (Ex.refl _)⟩
theorem rv_inMs {x a : Addr} {M : Mat} {Ms : List Mat} (hx : LLI K H x M) (ha : LL3 K H a Ms) : RV (rInD K) (.ref x) (.ref a) H (.bl (decide (M ∈ Ms))) := fun G g Q k =>
  ⟨_, _, (hx.mono g).dp, (ha.mono g).dp, shaped_M M, shaped_Ms Ms, by rw [any_Ms]; exact k G (Ex.refl _)⟩
/-- [one[1] for one in ways] -/
theorem er_names {j : Nat} {vs : List Nat} {tl ti : TE} (h : Ev tl σ H (.ref wa)) (hq : H wa = some (.lst (qs.map V.ref))) (hqs : Paired (QW K H n) qs S) (hl : S.length ≤ 1000) (hw : ∀ x, wipe ((wipe σ vs).set j (some x)) vs = wipe σ vs) (hj : ∀ x, ((wipe σ vs).set j (some x))[j]? = some (some x))
    (hi : ∀ x H1, Ev ti ((wipe σ vs).set j (some x)) H1 (.int 1)) : Er (tLc (iList K tl) (gName j) tYes (tOp (rIxT K) (tVar j) ti) vs) σ H (fun H1 H2 v => ∃ p, v = .ref p ∧ H1 p = none ∧ LL3 K H2 p (S.map (nmE n))) := fun H1 e Q q => by
  obtain ⟨ms, hms⟩ : ∃ ms : List Addr, Paired (fun m (z : Addr × WE) => ∃ wy fm, H z.1 = some (.tup [.ref wy, .ref m, .ref fm]) ∧ LLI K H m (nmE n z.2)) ms (qs.zip S) ∧ ms.length = S.length := by
    have key : ∀ {qs : List Addr} {S : List WE}, Paired (QW K H n) qs S → ∃ ms : List Addr, Paired (fun m (z : Addr × WE) => ∃ wy fm, H z.1 = some (.tup [.ref wy, .ref m, .ref fm]) ∧ LLI K H m (nmE n z.2)) ms (qs.zip S) ∧ ms.length = S.length := fun {qs S} hP => by
      induction hP with
      | nil => exact ⟨[], .nil, rfl⟩
      | cons r t ih =>
        obtain ⟨ms, h1, h2⟩ := ih
        obtain ⟨wy, nm, fm, r1, r2, r3, r4⟩ := r
        exact ⟨nm :: ms, .cons ⟨wy, fm, r1, r3⟩ h1, by rw [List.length_cons, List.length_cons, h2]⟩
    exact key hqs
  obtain ⟨hms, hml⟩ := hms
  have hql := hqs.length
  have hlc := el_lcL (K := K) (te := tOp (rIxT K) (tVar j) ti) (t := tYes) (fun _ => true) (fun i => .ref (ms.getD i 0)) h (sq_of hq) (by rw [List.length_map]; omega) hw (fun _ _ _ _ _ _ _ Q q => q _ (Ex.refl _)) (fun i x G1 g1 hx _ => by
    rw [List.getElem?_map] at hx
    cases hy : qs[i]? with
    | none => rw [hy] at hx; cases hx
    | some y =>
      rw [hy] at hx
      cases hx
      have hil := (List.getElem?_eq_some_iff.mp hy).1
      have hz : (qs.zip S)[i]? = some (y, S[i]) := by
        rw [List.getElem?_zip_eq_some]
        exact ⟨hy, List.getElem?_eq_getElem (by omega)⟩
      obtain ⟨m, hm, wy, fm, h1, _⟩ := paired_get hms hz
      have e : ms.getD i 0 = m := by rw [List.getD_eq_getElem?_getD, hm]; rfl
      rw [e]
      exact ev_op (ev_var (hj _)) (hi _ G1) (rv_ixT (st_of (g1 _ _ h1)) (atI_n (i := 1) rfl)))
  have hgv : given (qs.map V.ref).length (fun _ => true) (fun i => V.ref (ms.getD i 0)) = ms.map V.ref := by
    unfold given
    rw [filt_all, List.length_map, hql, ← hml]
    conv => rhs; rw [list_eq_range 0 ms]
    rw [List.map_map]
    rfl
  rw [hgv] at hlc
  refine hlc H1 e _ fun p H2 hp e2 hp2 => q _ H2 e2 ⟨p, rfl, hp, ms, sq_of hp2, ?_⟩
  refine paired_of (by rw [hml, List.length_map]) fun i x M hx hM => ?_
  obtain ⟨z, hz, wy, fm, _, h2⟩ := paired_getL hms hx
  rw [List.getElem?_zip_eq_some] at hz
  rw [List.getElem?_map, hz.2] at hM
  cases hM
  exact h2.mono (e.trans e2)
end
section
variable {P : Program} {w : World} {K : Frag} {mg : Str → Option Value} {base : Heap} {k : Nat}
end
end AT

/-! ## small forms, drawn -/
namespace AT
open PySem PySem.Spec PyProof.Rows L2 Evl
section
variable {K : Frag} {σ : St} {H H0 H1 : Hp} {te ta tb tc t1 t2 t3 : TE} {a p : Addr} {xs ys : List V} {D : Ends} {tz : TS}
theorem el_catL (h1 : EvL ta σ H xs) (h2 : EvL tb σ H ys) (hl : xs.length + ys.length ≤ 10000) : EvL (tOp rCat ta tb) σ H (xs ++ ys) := fun H1 e Q q =>
  h1 H1 e _ fun p H2 hp e2 hp2 => h2 H2 (e.trans e2) _ fun r H3 hr e3 hr3 => ⟨p, r, _, _, rfl, rfl, e3 _ _ hp2, hr3, Nat.le_trans hl (by decide), fun z hz => by
    have ez := Ex.new (o := .lst (xs ++ ys)) hz
    exact q z _ (fresh_back (e2.trans e3) hz) ((e2.trans e3).trans ez) upd_same⟩
/-- three new rows -/
theorem er_rows3 {r1 r2 r3 : List Int} (h1 : Er t1 σ H (RL r1)) (h2 : Er t2 σ H (RL r2)) (h3 : Er t3 σ H (RL r3)) : Er (tLst (tCons t1 (tCons t2 (tCons t3 tNil)))) σ H (RM [r1, r2, r3]) := fun H1 e Q q =>
  h1 H1 e _ fun v1 H2 e2 ⟨x, hx, hx1⟩ => h2 H2 (e.trans e2) _ fun v2 H3 e3 ⟨y, hy, hy1⟩ => h3 H3 ((e.trans e2).trans e3) _ fun v3 H4 e4 ⟨z, hz, hz1⟩ => by
    subst hx; subst hy; subst hz
    refine ⟨by show 3 ≤ sizeLine; decide, fun l hl => ?_⟩
    have el := Ex.new (o := .lst [.ref x, .ref y, .ref z]) hl
    have n1 : x ≠ y := ne_of_none hx1.2 hy1.1
    have n2 : x ≠ z := ne_of_none (e3 _ _ hx1.2) hz1.1
    have n3 : y ≠ z := ne_of_none hy1.2 hz1.1
    have l1 : x ≠ l := ne_of_none ((e3.trans e4) _ _ hx1.2) hl
    have l2 : y ≠ l := ne_of_none (e4 _ _ hy1.2) hl
    have l3 : z ≠ l := ne_of_none hz1.2 hl
    refine q _ _ (((e2.trans e3).trans e4).trans el) ⟨l, rfl, [x, y, z], fresh_back ((e2.trans e3).trans e4) hl, upd_same, ?_, .cons ⟨hx1.1, ((e3.trans e4).trans el) _ _ hx1.2⟩ (.cons ⟨fresh_back e2 hy1.1, (e4.trans el) _ _ hy1.2⟩ (.cons ⟨fresh_back (e2.trans e3) hz1.1, el _ _ hz1.2⟩ .nil))⟩
    simp only [List.nodup_cons, List.mem_cons, List.not_mem_nil, or_false, not_or, not_false_eq_true, List.nodup_nil, and_true]
    exact ⟨⟨l1.symm, l2.symm, l3.symm⟩, ⟨n1, n2⟩, n3⟩
end
def RFormN (n : Nat) : R3 := fun H1 H2 v => ∃ f p, v = .ref p ∧ FormOf n f ∧ OLLI H1 H2 p (Fm n f)
def farB (x y : Nat) : Prop := 1 < (if ((x : Int) - (y : Int)) < 0 then -((x : Int) - (y : Int)) else (x : Int) - (y : Int))
instance (x y : Nat) : Decidable (farB x y) := by unfold farB; infer_instance
def zf (f : Fun2) (i j : Nat) : Fun2 := fun x y => if (x < i ∨ (x = i ∧ y < j)) ∧ farB x y then 0 else f x y
theorem farB_symm {x y : Nat} : farB x y ↔ farB y x := by
  unfold farB
  constructor <;> intro h <;> split at h <;> split <;> omega
def sp__law_small (K : Frag) : Sp := fun vs H Q _ => ∃ (a : Addr) (ns : List Int) (k : Nat), vs = [.ref a, .int (k : Int)] ∧ LI K H a ns ∧ k ≤ 900 ∧ ∀ n f H' p, Ex H H' → FormOf n f → n ≤ 4 → OLLI H H' p (Fm n f) → Q (.ref p) H'
section
variable {P : Program} {w : World} {K : Frag} {mg : Str → Option Value} {base : Heap} {k : Nat}
theorem ok__law_small (T : Txt K mg) (G__law_cell : FnOk P w K mg base CX0 k T.f__law_cell T.d__law_cell ["script", "k"] (sp__law_cell K)) (G__law_form : FnOk P w K mg base CX0 k T.f__law_form T.d__law_form ["script", "k", "most"] (sp__law_form K)) : FnOk P w K mg base CX0 (k + 1) T.f__law_small T.d__law_small ["script", "k"] (sp__law_small K) := by
  refine T.F__law_small.ok sc__law_small (fun vs H Q E h => ?_) (fun cdv A outer s H vs Q E hr h => ?_)
  · obtain ⟨a, ns, k, rfl, _⟩ := h
    rfl
  · obtain ⟨a, ns, k, rfl, hL, hk, q⟩ := h
    refine ⟨_, (pss_cons (ps_set (i := 2) sc__law_small.nd rfl (.inl rfl) (pe_op op_add pe_int (pe_op op_modN (pe_call G__law_cell hr rfl T.m__law_cell T.F__law_cell.kp T.b__law_cell .nil pass0 (pa_cons (pv 0) (pa_cons (pv 1) pa_nil))) pe_int)))
      (pss_cons (ps_set (i := 3) sc__law_small.nd rfl (.inl rfl) (pe_op op_modN (pe_call G__law_cell hr rfl T.m__law_cell T.F__law_cell.kp T.b__law_cell .nil pass0 (pa_cons (pv 0) (pa_cons (pe_op op_add (pv 1) pe_int) pa_nil))) pe_int))
      (pss_cons (ps_set (i := 4) sc__law_small.nd rfl (.inl rfl) (pe_call G__law_form hr rfl T.m__law_form T.F__law_form.kp T.b__law_form .nil pass0 (pa_cons (pe_op op_cat (pe_lst (pa_cons (pe_op op_sub (pv 2) pe_int) (pa_cons (pe_ix (ixL K) (pe_lst (pa_cons pe_int (pa_cons pe_int (pa_cons pe_int (pa_cons pe_int (pa_cons pe_int pa_nil)))))) (pv 3) (fun _ _ => rfl)) pa_nil))) (pe_lc (own := [("j", 6)]) rfl sc__law_small.nd (pi_range1 rfl T.b_range (pa_cons pe_int pa_nil)) (blkOk_by (own := [("j", 6)]) (N := N__law_small) (sc := defScope s__law_small) (by decide +kernel)) (fun _ _ _ _ _ => (pg_name (i := 6) sc__law_small.nd rfl (.inl rfl))) (fun _ _ _ _ _ => pts_nil) (fun _ _ _ _ _ => (pe_call G__law_cell hr rfl T.m__law_cell T.F__law_cell.kp T.b__law_cell .nil pass0 (pa_cons (pv 0) (pa_cons (pe_op op_add (pe_op op_add (pv 1) pe_int) (pv 6)) pa_nil)))))) (pa_cons pe_int (pa_cons pe_int pa_nil)))))
      (pss_cut (ps_if (pt_cmpR op_eq (pv 3) pe_int (nomark _))
        (pss_one (ps_for PassesOwn.never rfl (pi_range1 rfl T.b_range (pa_cons (pv 2) pa_nil)) (pg_name (i := 5) sc__law_small.nd rfl (.inl rfl))
        (pss_one (ps_for PassesOwn.never rfl (pi_range1 rfl T.b_range (pa_cons (pv 2) pa_nil)) (pg_name (i := 6) sc__law_small.nd rfl (.inl rfl))
        (pss_one (ps_if (pt_cmpR op_gt (pe_callB absK rfl T.b_abs (by decide +kernel) (pa_cons (pe_op op_sub (pv 5) (pv 6)) pa_nil)) pe_int (nomark _))
        (pss_one (ps_asg pe_int (pg_sub (pe_ix (ixL K) (pv 4) (pv 5) (fun _ _ => rfl)) (pv 6) set_list)))
        pss_nil))))))
        pss_nil)
      (pss_cut (ps_if (PW.pt (pw_and (pt_cmpR op_eq (pv 3) pe_int (nomark _)) (pw_and1 (pt_cmpR op_eq (pv 2) pe_int (nomark _)))))
        (pss_cons (ps_set (i := 7) sc__law_small.nd rfl (.inl rfl) (pe_op op_modN (pe_call G__law_cell hr rfl T.m__law_cell T.F__law_cell.kp T.b__law_cell .nil pass0 (pa_cons (pv 0) (pa_cons (pe_op op_add (pv 1) pe_int) pa_nil))) pe_int))
      (pss_one (ps_set (i := 4) sc__law_small.nd rfl (.inl rfl) (pe_lst (pa_cons (pe_lst (pa_cons pe_int (pa_cons (pv 7) (pa_cons (pe_op op_sub pe_int (pv 7)) pa_nil)))) (pa_cons (pe_lst (pa_cons (pe_op op_sub pe_int (pv 7)) (pa_cons pe_int (pa_cons (pv 7) pa_nil)))) (pa_cons (pe_lst (pa_cons (pv 7) (pa_cons (pe_op op_sub pe_int (pv 7)) (pa_cons pe_int pa_nil)))) pa_nil)))))))
        pss_nil)
      (pss_one (ps_ret (pv 4)))))))), ?_⟩
    have hcv : ∀ (j : Nat) (σ : St) (H1 : Hp), Ex H H1 → j ≤ 1000 → σ[0]? = some (some (.ref a)) → σ[1]? = some (some (.int (k : Int))) → Ev (tCall (sp__law_cell K) [] E0 (tCons (tVar 0) (tCons (tOp (rI0 fun i j => .int (i + j)) (tVar 1) (tC (.int (j : Int)))) tNil))) σ H1 (.int (cellV ns (k + j))) := fun j σ H1 e hj h0 h1 => ev_cv (j := k + j) (hL.mono e) (ea_cons (ev_var h0) (ea_cons (ev_op (ev_var h1) ev_c rv_I0) ea_nil)) (by omega)
    obtain ⟨n, hn, hn1, hn4⟩ : ∃ n : Nat, 1 + cellV ns k % 4 = (n : Int) ∧ 1 ≤ n ∧ n ≤ 4 := ⟨(1 + cellV ns k % 4).toNat, by omega, by omega, by omega⟩
    refine q_asg (v := .int (n : Int)) (ev_cast (ev_op ev_c (ev_mod (ev_cv (j := k) hL (ea_cons (ev_var rfl) (ea_cons (ev_var rfl) ea_nil)) (by omega)) ev_c (by decide)) rv_I0) (by rw [hn])) fun H1 e1 => ?_
    obtain ⟨m, hm, hm5⟩ : ∃ m : Nat, cellV ns (k + 1) % 5 = (m : Int) ∧ m < 5 := ⟨(cellV ns (k + 1) % 5).toNat, by omega, by omega⟩
    refine q_asg (v := .int (m : Int)) (ev_cast (ev_mod (hcv 1 _ H1 e1 (by decide) rfl rfl) ev_c (by decide)) (by rw [hm])) fun H2 e2 => ?_
    have e02 := e1.trans e2
    obtain ⟨mv, hmv⟩ : ∃ mv : Int, [V.int 0, .int 2, .int 2, .int 1, .int 3][m]? = some (.int mv) := by
      rcases (show m = 0 ∨ m = 1 ∨ m = 2 ∨ m = 3 ∨ m = 4 by omega) with rfl | rfl | rfl | rfl | rfl <;> exact ⟨_, rfl⟩
    have hxs : EvL (tOp rCat (tLst (tCons (tOp (rI0 fun i j => .int (i - j)) (tVar 2) (tC (.int 1))) (tCons (tOp (rIxL K) (tLst (tCons (tC (.int 0)) (tCons (tC (.int 2)) (tCons (tC (.int 2)) (tCons (tC (.int 1)) (tCons (tC (.int 3)) tNil)))))) (tVar 3)) tNil)))
        (tLc (iRng1 (tCons (tC (.int 6)) tNil)) (gName 6) tYes (tCall (sp__law_cell K) [] E0 (tCons (tVar 0) (tCons (tOp (rI0 fun i j => .int (i + j)) (tOp (rI0 fun i j => .int (i + j)) (tVar 1) (tC (.int 2))) (tVar 6)) tNil))) [6]))
        [some (.ref a), some (.int (k : Int)), some (.int (n : Int)), some (.int (m : Int)), none, none, none, none] H2 ((((n : Int) - 1) :: mv :: (List.range 6).map fun j => cellV ns (k + 2 + j)).map V.int) := by
      refine el_catL (xs := [.int ((n : Int) - 1), .int mv]) (el_lst (ea_cons (ev_op (ev_var rfl) ev_c rv_I0) (ea_cons (ev_menu (i := m) (ea_cons ev_c (ea_cons ev_c (ea_cons ev_c (ea_cons ev_c (ea_cons ev_c ea_nil))))) (by show 5 ≤ 100000; decide) (fun H3 e3 => ev_var rfl) hmv) ea_nil)) (by show 2 ≤ 100000; decide)) (ys := ((List.range 6).map fun j => cellV ns (k + 2 + j)).map V.int) ?_ (by simp)
      have := el_lcR1 (σ := [some (.ref a), some (.int (k : Int)), some (.int (n : Int)), some (.int (m : Int)), none, none, none, none]) (H := H2) (ta := tCons (tC (.int 6)) tNil) (te := tCall (sp__law_cell K) [] E0 (tCons (tVar 0) (tCons (tOp (rI0 fun i j => .int (i + j)) (tOp (rI0 fun i j => .int (i + j)) (tVar 1) (tC (.int 2))) (tVar 6)) tNil))) (t := tYes) (j := 6) (vs := [6]) (n := 6) (fun _ => true) (fun j => .int (cellV ns (k + 2 + j))) (ea_cons ev_c ea_nil) (by decide) (fun _ => rfl) (fun _ _ _ _ _ _ Q q => q _ (Ex.refl _)) (fun j G1 g1 hj _ => ev_cv (j := k + 2 + j) (hL.mono (e02.trans g1)) (ea_cons (ev_var rfl) (ea_cons (ev_op (ev_op (ev_var (v := .int (k : Int)) rfl) ev_c (rv_I0 (g := fun i j => .int (i + j)))) (ev_var (v := .int (j : Int)) rfl) (rv_I0 (g := fun i j => .int (i + j)))) ea_nil)) (by omega))
      have hg := given_all 6 (fun j => cellV ns (k + 2 + j))
      rw [← hg]
      exact this
    refine qr_asg (R := RFormN n) (fun G1 g1 Q' q' => hxs G1 g1 _ fun sc G2 hsc g2 hsc2 => ?_) fun v H3 e3 ⟨f, p, hv, hf, hO⟩ => ?_
    · refine ⟨sc, _, 0, 4, rfl, sq_of hsc2, by decide, by decide, by decide, fun n' f H' p e hf hn' hO => ?_⟩
      have h0 : cellV (((n : Int) - 1) :: mv :: (List.range 6).map fun j => cellV ns (k + 2 + j)) 0 = (n : Int) - 1 := by
        show (if 0 < _ then _ else _) = _
        rw [if_pos (by simp)]
        rfl
      have hnn : n' = n := by
        have := hn'.2
        rw [h0] at this
        have h5 : ((n : Int) - 1) % ((4 : Nat) : Int) = (n : Int) - 1 := Int.emod_eq_of_lt (by omega) (by omega)
        rw [h5] at this
        omega
      subst hnn
      exact q' _ H' (g2.trans e) ⟨f, p, rfl, hf, hO.back g2⟩
    subst hv
    have e03 := e02.trans e3
    refine q_cut (M := fun σ' H' => ∃ f p x5 x6, σ' = [some (.ref a), some (.int (k : Int)), some (.int (n : Int)), some (.int (m : Int)), some (.ref p), x5, x6, none] ∧ Ex H H' ∧ FormOf n f ∧ OLLI H H' p (Fm n f)) ?_ fun σ' H4 hM => ?_
    · refine s_when (et_test (ev_op (ev_var (v := .int (m : Int)) rfl) ev_c (rv_eq rfl))) (fun hb H4 e4 => ?_) (fun hb H4 e4 => ⟨f, p, _, _, rfl, e03.trans e4, hf, (hO.mono e4).back e02⟩)
      refine s_forR1 (n := (n : Int)) (ea_cons (ev_var rfl) ea_nil) (by omega) (fun i σ' H' => ∃ x5 x6, σ' = [some (.ref a), some (.int (k : Int)), some (.int (n : Int)), some (.int (m : Int)), some (.ref p), x5, x6, none] ∧ Ex H H' ∧ OLLI H H' p (Fm n (zf f i 0))) (fun H5 e5 => ⟨_, _, rfl, (e03.trans e4).trans e5, ?_⟩) (fun i σ' H5 hi hP => ?_) (fun σ' H5 hP => ?_)
      · have : Fm n (zf f 0 0) = Fm n f := fm_ext fun x y hx hy => if_neg fun z => by omega
        rw [this]
        exact ((hO.mono e4).mono e5).back e02
      · obtain ⟨x5, x6, rfl, e5, hO5⟩ := hP
        have hin : i < n := by omega
        refine s_forR1 (n := (n : Int)) (ea_cons (ev_var rfl) ea_nil) (by omega) (fun j σ' H' => ∃ x6, σ' = [some (.ref a), some (.int (k : Int)), some (.int (n : Int)), some (.int (m : Int)), some (.ref p), some (.int (i : Int)), x6, none] ∧ Ex H H' ∧ OLLI H H' p (Fm n (zf f i j))) (fun H6 e6 => ⟨_, rfl, e5.trans e6, hO5.mono e6⟩) (fun j σ' H6 hj hP => ?_) (fun σ' H6 hP => ?_)
        · obtain ⟨x6, rfl, e6, hO6⟩ := hP
          have hjn : j < n := by omega
          refine s_when (b := decide (farB i j)) (et_is (et_test (ev_op (ev_abs (ev_op (ev_var (v := .int (i : Int)) rfl) (ev_var (v := .int (j : Int)) rfl) (rv_I0 (g := fun i j => .int (i - j))))) ev_c rv_I0)) rfl) (fun hb H7 e7 => ?_) (fun hb H7 e7 => ?_)
          · rw [decide_eq_true_eq] at hb
            refine s_setFm (hO6.mono e7) (e6.trans e7) hin hjn ev_c (ev_var rfl) (ev_var rfl) (ev_var rfl) fun H8 e8 hO8 => ⟨_, rfl, e8, ?_⟩
            have : Fm n (setF (zf f i j) i j 0) = Fm n (zf f i (j + 1)) := fm_ext fun x y hx hy => by
              unfold setF zf
              by_cases c : x = i ∧ y = j
              · obtain ⟨rfl, rfl⟩ := c
                rw [if_pos ⟨rfl, rfl⟩, if_pos ⟨.inr ⟨rfl, by omega⟩, hb⟩]
              · rw [if_neg c]
                by_cases c2 : (x < i ∨ (x = i ∧ y < j)) ∧ farB x y
                · rw [if_pos c2, if_pos ⟨by omega, c2.2⟩]
                · rw [if_neg c2, if_neg fun z => c2 ⟨by omega, z.2⟩]
            rw [← this]
            exact hO8
          · rw [decide_eq_false_iff_not] at hb
            refine ⟨_, rfl, e6.trans e7, ?_⟩
            have : Fm n (zf f i j) = Fm n (zf f i (j + 1)) := fm_ext fun x y hx hy => by
              unfold zf
              by_cases c2 : (x < i ∨ (x = i ∧ y < j)) ∧ farB x y
              · rw [if_pos c2, if_pos ⟨by omega, c2.2⟩]
              · rw [if_neg c2, if_neg fun z => c2 ⟨by
                  rcases z.1 with h | ⟨h1, h2⟩
                  · exact .inl h
                  · refine .inr ⟨h1, ?_⟩
                    by_cases c3 : y = j
                    · subst h1; subst c3
                      exact absurd z.2 hb
                    · omega, z.2⟩]
            rw [← this]
            exact hO6.mono e7
        · obtain ⟨x6, rfl, e6, hO6⟩ := hP
          refine ⟨_, _, rfl, e6, ?_⟩
          have : Fm n (zf f i (n : Int).toNat) = Fm n (zf f (i + 1) 0) := fm_ext fun x y hx hy => by
            unfold zf
            rw [Int.toNat_natCast]
            by_cases c2 : (x < i ∨ (x = i ∧ y < n)) ∧ farB x y
            · rw [if_pos c2, if_pos ⟨by omega, c2.2⟩]
            · rw [if_neg c2, if_neg fun z => c2 ⟨by omega, z.2⟩]
          rw [← this]
          exact hO6
      · obtain ⟨x5, x6, rfl, e5, hO5⟩ := hP
        rw [Int.toNat_natCast] at hO5
        refine ⟨zf f n 0, p, _, _, rfl, e5, ⟨hf.1, hf.2.1, fun x y hx hy => ?_⟩, hO5⟩
        have h1 := hf.2.2 x y hx hy
        unfold zf
        by_cases c : farB x y
        · rw [if_pos ⟨.inl hx, c⟩, if_pos ⟨.inl hy, farB_symm.mp c⟩]
          omega
        · rw [if_neg (fun z => c z.2), if_neg (fun z => c (farB_symm.mp z.2))]
          exact h1
    · clear hO hf
      obtain ⟨f, p, x5, x6, rfl, e04, hf, hO⟩ := hM
      refine q_cut (M := fun σ' H' => ∃ f p x7, σ' = [some (.ref a), some (.int (k : Int)), some (.int (n : Int)), some (.int (m : Int)), some (.ref p), x5, x6, x7] ∧ Ex H H' ∧ FormOf n f ∧ OLLI H H' p (Fm n f)) ?_ fun σ' H5 hM => ?_
      · refine s_when (et_and (et_test (ev_op (ev_var (v := .int (m : Int)) rfl) ev_c (rv_eq rfl))) fun _ => et_test (ev_op (ev_var (v := .int (n : Int)) rfl) ev_c (rv_eq rfl))) (fun hb H5 e5 => ?_) (fun hb H5 e5 => ⟨f, p, _, rfl, e04.trans e5, hf, hO.mono e5⟩)
        simp only [Bool.and_eq_true, decide_eq_true_eq] at hb
        have hn3 : n = 3 := by
          have := hb.2
          injection this with this
          omega
        subst hn3
        obtain ⟨t, ht, ht1, ht2⟩ : ∃ t : Int, cellV ns (k + 8) % 3 = t ∧ 0 ≤ t ∧ t ≤ 2 := ⟨_, rfl, by omega, by omega⟩
        refine q_asg (v := .int t) (ev_cast (ev_mod (hcv 8 _ H5 (e04.trans e5) (by decide) rfl rfl) ev_c (by decide)) (by rw [ht])) fun H6 e6 => ?_
        have hrow : ∀ (ta tb tc : TE) (x y z : Int) (σ : St) (G : Hp), Ev ta σ G (.int x) → Ev tb σ G (.int y) → Ev tc σ G (.int z) → Er (tLst (tCons ta (tCons tb (tCons tc tNil)))) σ G (RL [x, y, z]) := fun ta tb tc x y z σ G h1 h2 h3 => er_of_evl (el_lst (ea_cons h1 (ea_cons h2 (ea_cons h3 ea_nil))) (by show 3 ≤ 100000; decide))
        refine sr_asg (er_rows3 (hrow _ _ _ 0 t (0 - t) _ _ ev_c (ev_var rfl) (ev_op ev_c (ev_var rfl) rv_I0)) (hrow _ _ _ (0 - t) 0 t _ _ (ev_op ev_c (ev_var rfl) rv_I0) ev_c (ev_var rfl)) (hrow _ _ _ t (0 - t) 0 _ _ (ev_var rfl) (ev_op ev_c (ev_var rfl) rv_I0) ev_c)) fun v H7 e7 ⟨p', hv, hO'⟩ => ?_
        subst hv
        have e06 := (e04.trans e5).trans e6
        refine ⟨fun i j => ([[0, t, 0 - t], [0 - t, 0, t], [t, 0 - t, 0]].getD i []).getD j 0, p', _, rfl, e06.trans e7, ⟨by decide, by decide, fun i j hi hj => ?_⟩, hO'.back e06⟩
        rcases (show i = 0 ∨ i = 1 ∨ i = 2 by omega) with rfl | rfl | rfl <;> rcases (show j = 0 ∨ j = 1 ∨ j = 2 by omega) with rfl | rfl | rfl <;> simp <;> omega
      · obtain ⟨f, p, x7, rfl, e05, hf, hO⟩ := hM
        exact s_ret (ev_var rfl) fun H6 e6 => q n f H6 p (e05.trans e6) hf hn4 (hO.mono e6)
end
end AT

/-! ## what turns lead to, shut: the same from each of the forms -/
namespace AT
open PySem PySem.Spec PyProof.Rows L2 Evl
/-- forms that turns lead to -/
inductive Rch (n : Nat) (f : Fun2) : Fun2 → Prop
  | base : Rch n f f
  | step {g : Fun2} {b : Nat} : Rch n f g → b < n → Rch n f (turnF g b)
theorem Rch.skew {n : Nat} {f g : Fun2} (hs : Skew n f) (h : Rch n f g) : Skew n g := by
  induction h with
  | base => exact hs
  | step _ hb ih => exact turnF_skew ih hb
theorem Rch.trans {n : Nat} {f g h : Fun2} (h1 : Rch n f g) (h2 : Rch n g h) : Rch n f h := by
  induction h2 with
  | base => exact h1
  | step _ hb ih => exact ih.step hb
theorem least_fm {n : Nat} {f g : Fun2} (h : Fm n f = Fm n g) : leastM n f = leastM n g := leastM_ext (fm_inj h).2
theorem fm_turn {n b : Nat} {f g : Fun2} (hb : b < n) (h : Fm n f = Fm n g) : Fm n (turnF f b) = Fm n (turnF g b) := turnF_ext hb (fm_inj h).2
theorem least_turn_ren {n b : Nat} {f : Fun2} {ps : List Nat} (h : Names n ps) (hb : b < n) : leastM n (turnF (renF f ps) (ps.getD b 0)) = leastM n (turnF f b) := (least_fm (turn_ren h hb)).trans (least_ren h)
theorem same_turn {n b : Nat} {g h : Fun2} (e : leastM n g = leastM n h) (hb : b < n) : ∃ c, c < n ∧ leastM n (turnF g b) = leastM n (turnF h c) := by
  obtain ⟨ps, hp, e1⟩ := least_mem n g
  obtain ⟨qs, hq, e2⟩ := least_mem n h
  have e3 : Fm n (renF g ps) = Fm n (renF h qs) := e1.symm.trans (e.trans e2)
  have hx := names_getD hp hb
  refine ⟨qs.idxOf (ps.getD b 0), hq.ix hx.1, ?_⟩
  rw [← least_turn_ren hp hb, least_fm (fm_turn hx.1 e3)]
  have := least_turn_ren (f := h) hq (hq.ix hx.1)
  rw [names_at_ix hq hx.1] at this
  exact this
/-- the names that turns lead to -/
def NR (n : Nat) (f : Fun2) (M : Mat) : Prop := ∃ g, Rch n f g ∧ leastM n g = M
theorem NR.same {n : Nat} {f h : Fun2} {M : Mat} (e : leastM n f = leastM n h) (x : NR n f M) : NR n h M := by
  obtain ⟨g, hr, rfl⟩ := x
  have : ∃ g', Rch n h g' ∧ leastM n g' = leastM n g := by
    induction hr with
    | base => exact ⟨h, .base, e.symm⟩
    | step _ hb ih =>
      obtain ⟨g', h1, h2⟩ := ih
      obtain ⟨c, hc, h3⟩ := same_turn h2.symm hb
      exact ⟨_, h1.step hc, h3.symm⟩
  exact this
theorem NR.trans {n : Nat} {f g : Fun2} {M : Mat} (h1 : NR n f (leastM n g)) (h2 : NR n g M) : NR n f M := by
  obtain ⟨g', hr, e⟩ := h1
  obtain ⟨h, hh, e2⟩ := h2.same e.symm
  exact ⟨h, hr.trans hh, e2⟩
theorem NR.back {n : Nat} {f g : Fun2} (h : Rch n f g) : NR n g (leastM n f) := by
  induction h with
  | base => exact ⟨f, .base, rfl⟩
  | @step g b _ hb ih => exact NR.trans (g := g) ⟨turnF (turnF g b) b, Rch.base.step hb, least_fm (turnF_twice hb)⟩ ih
theorem NR.symm {n : Nat} {f g : Fun2} (h : NR n f (leastM n g)) : NR n g (leastM n f) := by
  obtain ⟨g', hr, e⟩ := h
  exact (NR.back hr).same e
/-! ### the list gone through -/
def Shut (n i : Nat) (S : List WE) : Prop := S.length ≤ 20 → ∀ j s, j < i → S[j]? = some s → ∀ b, b < n → nmE n (addE s b) ∈ S.map (nmE n)
theorem pre_names {n : Nat} {S S' : List WE} (h : S <+: S') {M : Mat} (hm : M ∈ S.map (nmE n)) : M ∈ S'.map (nmE n) := by
  obtain ⟨t, rfl⟩ := h
  rw [List.map_append]
  exact List.mem_append_left _ hm
theorem fold_shut {n : Nat} {e : WE} : ∀ (l : List Nat) {S : List WE}, (l.foldl (stepB n e) S).length ≤ 20 → ∀ b, b ∈ l → nmE n (addE e b) ∈ (l.foldl (stepB n e) S).map (nmE n)
  | c :: l, S, hl, b, hb => by
    rcases List.mem_cons.mp hb with rfl | hb
    · refine pre_names (fold_pre l (stepB n e S b)) ?_
      have hS : S.length ≤ 20 := Nat.le_trans (stepB_pre.trans (fold_pre l _)).length_le hl
      unfold stepB
      by_cases hn : isNew n S (addE e b) = true
      · rw [if_pos ⟨hn, hS⟩, List.map_append]
        exact List.mem_append_right _ (by simp)
      · rw [if_neg fun z => hn z.1]
        unfold isNew at hn
        simpa using hn
    · exact fold_shut l hl b hb
theorem runW_shut {n : Nat} : ∀ (fu i : Nat) (S : List WE), fu + i = 21 → Shut n i S → Shut n (runW n fu i S).length (runW n fu i S)
  | 0, i, S, hi, h => fun h20 j s hj => h h20 j s (by show j < i; have : j < S.length := hj; have : S.length ≤ 20 := h20; omega)
  | fu + 1, i, S, hi, h => by
    unfold runW
    split
    · rename_i c
      refine runW_shut fu (i + 1) _ (by omega) fun h20 j s hj hs b hb => ?_
      have hpre : S <+: stepA n i S := fold_pre _ _
      by_cases hji : j = i
      · subst hji
        have hsD : S.getD j we0 = s := by
          have := pre_getD hpre c.1
          rw [List.getD_eq_getElem?_getD, hs] at this
          exact this.symm
        have := fold_shut (n := n) (e := S.getD j we0) (List.range n) (S := S) h20 b (List.mem_range.mpr hb)
        rw [hsD] at this
        unfold stepA
        rw [hsD]
        exact this
      · obtain ⟨t, ht⟩ := hpre
        have hjl : j < S.length := by omega
        rw [← ht, List.getElem?_append_left hjl] at hs
        exact pre_names ⟨t, ht⟩ (h c.2 j s (by omega) hs b hb)
    · rename_i c
      exact fun h20 j s hj => h h20 j s (by omega)
theorem ways_shut {n : Nat} {f : Fun2} (h : (waysL n f).length ≤ 20) {s : WE} (hs : s ∈ waysL n f) {b : Nat} (hb : b < n) : nmE n (addE s b) ∈ (waysL n f).map (nmE n) := by
  obtain ⟨j, hj, e⟩ := List.getElem_of_mem hs
  exact runW_shut 21 0 _ rfl (fun _ j s hj => absurd hj (Nat.not_lt_zero _)) h j s hj (by rw [← e]; exact List.getElem?_eq_getElem hj) b hb
theorem ways_all {n : Nat} {f : Fun2} (P : WE → Prop) (h0 : P ([], f)) (hS : ∀ s b, P s → b < n → P (addE s b)) : ∀ s, s ∈ waysL n f → P s := by
  have hB : ∀ (S : List WE) (s : WE) (b : Nat), (∀ t, t ∈ S → P t) → P s → b < n → ∀ t, t ∈ stepB n s S b → P t := fun S s b h1 h2 hb t ht => by
    unfold stepB at ht
    split at ht
    · rcases List.mem_append.mp ht with ht | ht
      · exact h1 t ht
      · rw [List.mem_singleton.mp ht]
        exact hS s b h2 hb
    · exact h1 t ht
  have hF : ∀ (l : List Nat) (S : List WE) (s : WE), (∀ b, b ∈ l → b < n) → (∀ t, t ∈ S → P t) → P s → ∀ t, t ∈ l.foldl (stepB n s) S → P t := fun l => by
    induction l with
    | nil => exact fun S s _ h _ => h
    | cons b l ih => exact fun S s hl h1 h2 => ih _ s (fun c hc => hl c (List.mem_cons_of_mem _ hc)) (hB S s b h1 h2 (hl b List.mem_cons_self)) h2
  have hR : ∀ (fu i : Nat) (S : List WE), (∀ t, t ∈ S → P t) → ∀ t, t ∈ runW n fu i S → P t := fun fu => by
    induction fu with
    | zero => exact fun _ _ h => h
    | succ fu ih =>
      intro i S h
      unfold runW
      split
      · rename_i c
        refine ih _ _ (hF _ _ _ (fun b hb => List.mem_range.mp hb) h (h _ ?_))
        rw [List.getD_eq_getElem?_getD, List.getElem?_eq_getElem c.1]
        exact List.getElem_mem c.1
      · exact h
  exact hR 21 0 _ (fun t ht => by rw [List.mem_singleton.mp ht]; exact h0)
theorem ways_rch {n : Nat} {f : Fun2} {s : WE} (hs : s ∈ waysL n f) : Rch n f s.2 := ways_all (fun s => Rch n f s.2) .base (fun _ _ h hb => h.step hb) s hs
theorem ways_pre0 (n : Nat) (f : Fun2) : ([], f) ∈ waysL n f := by
  have : ∀ (fu i : Nat) (S : List WE), ([], f) ∈ S → ([], f) ∈ runW n fu i S := fun fu => by
    induction fu with
    | zero => exact fun _ _ h => h
    | succ fu ih =>
      intro i S h
      unfold runW
      split
      · exact ih _ _ ((fold_pre _ _).subset h)
      · exact h
  exact this 21 0 _ List.mem_cons_self
/-- the names told are just the names that turns lead to -/
theorem names_iff {n : Nat} {f : Fun2} (h : (waysL n f).length ≤ 20) {M : Mat} : M ∈ (waysL n f).map (nmE n) ↔ NR n f M := by
  constructor
  · intro hm
    obtain ⟨s, hs, rfl⟩ := List.mem_map.mp hm
    exact ⟨s.2, ways_rch hs, rfl⟩
  · rintro ⟨g, hr, rfl⟩
    induction hr with
    | base => exact List.mem_map.mpr ⟨_, ways_pre0 n f, rfl⟩
    | step _ hb ih =>
      obtain ⟨s, hs, e⟩ := List.mem_map.mp ih
      obtain ⟨c, hc, e2⟩ := same_turn (h := s.2) (show leastM n _ = leastM n s.2 from e.symm) hb
      rw [e2]
      exact ways_shut h hs hc
theorem names_sub {n : Nat} {f : Fun2} {M : Mat} (hm : M ∈ (waysL n f).map (nmE n)) : NR n f M := by
  obtain ⟨s, hs, rfl⟩ := List.mem_map.mp hm
  exact ⟨s.2, ways_rch hs, rfl⟩
theorem stepB_nd {n : Nat} {e : WE} {S : List WE} {b : Nat} (h : (S.map (nmE n)).Nodup) : ((stepB n e S b).map (nmE n)).Nodup := by
  unfold stepB
  split
  · rename_i c
    have hc := c.1
    unfold isNew at hc
    rw [Bool.not_eq_true', decide_eq_false_iff_not] at hc
    rw [List.map_append, List.nodup_append]
    refine ⟨h, by simp, fun x hx y hy z => ?_⟩
    rw [List.map_singleton, List.mem_singleton] at hy
    subst z
    rw [hy] at hx
    exact hc hx
  · exact h
theorem fold_nd {n : Nat} {e : WE} : ∀ (l : List Nat) {S : List WE}, (S.map (nmE n)).Nodup → ((l.foldl (stepB n e) S).map (nmE n)).Nodup
  | [], _, h => h
  | b :: l, _, h => fold_nd l (stepB_nd h)
theorem runW_nd {n : Nat} : ∀ (fu i : Nat) {S : List WE}, (S.map (nmE n)).Nodup → ((runW n fu i S).map (nmE n)).Nodup
  | 0, _, _, h => h
  | fu + 1, i, S, h => by
    unfold runW
    split
    · exact runW_nd fu (i + 1) (fold_nd _ h)
    · exact h
theorem ways_nd (n : Nat) (f : Fun2) : ((waysL n f).map (nmE n)).Nodup := runW_nd 21 0 (by simp)
theorem nodup_sub_len {α : Type} [DecidableEq α] : ∀ {l m : List α}, l.Nodup → (∀ x, x ∈ l → x ∈ m) → l.length ≤ m.length
  | [], _, _, _ => Nat.zero_le _
  | x :: l, m, hd, hs => by
    rw [List.nodup_cons] at hd
    have hx := hs x List.mem_cons_self
    have := nodup_sub_len (m := m.erase x) hd.2 fun y hy => (List.mem_erase_of_ne (fun z => by subst z; exact hd.1 hy)).mpr (hs y (List.mem_cons_of_mem _ hy))
    rw [List.length_erase_of_mem hx] at this
    have hm : 0 < m.length := List.length_pos_of_mem hx
    simp only [List.length_cons]
    omega
/-! ### in order -/
theorem ltM_asym {M N : Mat} (h : ltM N M = true) : ltM M N = false := by
  cases h2 : ltM M N with
  | false => rfl
  | true =>
    have h3 : ltM N N = true := lin_M.tr N M N h h2
    have h4 : ltM N N = false := lin_M.irr N
    rw [h4] at h3
    cases h3
theorem ltM_tri {M N : Mat} (h1 : ltM M N = false) (h2 : ltM N M = false) : M = N := by
  by_cases e : M = N
  · exact e
  · rcases lin_M.tot M N e with h | h
    · have h : ltM M N = true := h
      rw [h1] at h; cases h
    · have h : ltM N M = true := h
      rw [h2] at h; cases h
theorem leM_total (M N : Mat) : (leM M N || leM N M) = true := by
  unfold leM
  cases h : ltM N M with
  | false => rfl
  | true => rw [ltM_asym h]; rfl
theorem sortMat_perm (Ms : List Mat) : (sortMat Ms).Perm Ms := List.mergeSort_perm _ _
theorem leM_trans {L M N : Mat} (h1 : leM L M = true) (h2 : leM M N = true) : leM L N = true := by
  unfold leM at *
  rw [Bool.not_eq_true'] at h1 h2 ⊢
  exact lin_nlt (a := L) (b := M) (c := N) lin_M h1 h2
theorem sortMat_le (Ms : List Mat) : (sortMat Ms).Pairwise fun a b => leM a b = true := List.pairwise_mergeSort (le := leM) (fun _ _ _ => leM_trans) leM_total Ms
theorem leM_anti {M N : Mat} (h1 : leM M N = true) (h2 : leM N M = true) : M = N := by
  unfold leM at *
  rw [Bool.not_eq_true'] at h1 h2
  exact ltM_tri h2 h1
theorem sortMat_eq {Ms Ns : List Mat} (h : Ms.Perm Ns) : sortMat Ms = sortMat Ns :=
  List.Perm.eq_of_pairwise (fun _ _ _ _ => leM_anti) (sortMat_le Ms) (sortMat_le Ns) ((sortMat_perm Ms).trans (h.trans (sortMat_perm Ns).symm))
/-- told of one of its forms, or of a form renamed: the same -/
theorem reach_same {n : Nat} {f g : Fun2} (h : (waysL n f).length ≤ 20) (hg : NR n f (leastM n g)) : (waysL n g).length ≤ 20 ∧ reachM n g = reachM n f := by
  have hsub : ∀ M, M ∈ (waysL n g).map (nmE n) → M ∈ (waysL n f).map (nmE n) := fun M hm => (names_iff h).mpr (hg.trans (names_sub hm))
  have hl := nodup_sub_len (ways_nd n g) hsub
  rw [List.length_map, List.length_map] at hl
  have h2 : (waysL n g).length ≤ 20 := by omega
  refine ⟨h2, sortMat_eq ?_⟩
  exact (List.perm_ext_iff_of_nodup (ways_nd n g) (ways_nd n f)).mpr fun M => ⟨hsub M, fun hm => (names_iff h2).mpr (hg.symm.trans (names_sub hm))⟩
theorem reach_mem {n : Nat} {f : Fun2} {M : Mat} : M ∈ reachM n f ↔ M ∈ (waysL n f).map (nmE n) := by unfold reachM sortMat; rw [List.mem_mergeSort]
theorem reach_nd (n : Nat) (f : Fun2) : (reachM n f).Nodup := (List.Perm.nodup_iff (sortMat_perm _)).mpr (ways_nd n f)
theorem reach_rises {n i : Nat} {f : Fun2} {M N : Mat} (h1 : (reachM n f)[i]? = some M) (h2 : (reachM n f)[i + 1]? = some N) : ltM M N = true := by
  obtain ⟨hi, e1⟩ := List.getElem?_eq_some_iff.mp h1
  obtain ⟨hj, e2⟩ := List.getElem?_eq_some_iff.mp h2
  have hle : leM M N = true := by
    have := List.pairwise_iff_getElem.mp (sortMat_le ((waysL n f).map (nmE n))) i (i + 1) hi hj (by omega)
    rw [← e1, ← e2]
    exact this
  have hne : M ≠ N := fun z => by
    rw [← e1, ← e2] at z
    have := (List.getElem_inj (reach_nd n f)).mp z
    omega
  cases hlt : ltM M N with
  | true => rfl
  | false =>
    unfold leM at hle
    rw [Bool.not_eq_true'] at hle
    exact absurd (ltM_tri hlt hle) hne
end AT

namespace AT
open PySem PySem.Spec PyProof.Rows L2 Evl L2H
def sp_law (K : Frag) : Sp := fun vs H Q _ => ∃ (a : Addr) (ns : List Int), vs = [.ref a] ∧ SqL K H a (ns.map V.int) ∧ ns.length ≤ 63 ∧ ∀ H', Q (.bl true) H'
def sp__law_told11 (K : Frag) : Sp := fun vs H Q _ => ∃ (a : Addr) (n : Nat) (f : Fun2), vs = [.ref a] ∧ LLI K H a (Fm n f) ∧ FormOf n f ∧ n ≤ 4 ∧ (20 < (waysL n f).length → ∀ H', Ex H H' → Q .non H') ∧
  ((waysL n f).length ≤ 20 → ∀ H' p, Ex H H' → OL3 H H' p (reachM n f) → Q (.ref p) H')
theorem skew_ren {n : Nat} {f : Fun2} {ps : List Nat} (hs : Skew n f) (h : Names n ps) : Skew n (renF f ps) := fun i j hi hj => hs _ _ (h.ix hi) (h.ix hj)
theorem Rch.det {n : Nat} {f g : Fun2} (h6 : n ≤ 6) (hs : Skew n f) (h : Rch n f g) : detL n g = detL n f := by
  induction h with
  | base => rfl
  | step hr hb ih => rw [detL_turn h6 (hr.skew hs) hb, ih]
/-- one of the forms told -/
theorem reach_form {n : Nat} {f : Fun2} {M : Mat} (hf : FormOf n f) (hm : M ∈ reachM n f) : ∃ g, M = Fm n g ∧ leastM n g = M ∧ Skew n g ∧ detL n g = detL n f ∧ NR n f (leastM n g) := by
  have hm := reach_mem.mp hm
  have hnr := names_sub hm
  obtain ⟨s, hs, rfl⟩ := List.mem_map.mp hm
  obtain ⟨ps, hp, e⟩ := least_mem n s.2
  have hr := ways_rch hs
  have hl : leastM n (renF s.2 ps) = nmE n s := least_ren hp
  refine ⟨renF s.2 ps, e, hl, skew_ren (hr.skew hf.skew) hp, ?_, by rw [hl]; exact hnr⟩
  rw [detL_ren _ hf.2.1 hp rfl, hr.det hf.2.1 hf.skew]
theorem max_form {n : Nat} {g : Fun2} (hn1 : 1 ≤ n) (hn6 : n ≤ 6) (hs : Skew n g) (hk : maxL ((Fm n g).map maxL) ≤ 99) : FormOf n g := by
  have hle : ∀ i j, i < n → j < n → g i j ≤ 99 := fun i j hi hj => by
    have h1 : g i j ≤ maxL ((List.range n).map (g i)) := maxL_le (List.mem_map.mpr ⟨j, List.mem_range.mpr hj, rfl⟩)
    have h2 : maxL ((List.range n).map (g i)) ≤ maxL ((Fm n g).map maxL) := maxL_le (List.mem_map.mpr ⟨_, List.mem_map.mpr ⟨i, List.mem_range.mpr hi, rfl⟩, rfl⟩)
    omega
  refine ⟨hn1, hn6, fun i j hi hj => ?_⟩
  have h1 := hs i j hi hj
  have h2 := hle i j hi hj
  have h3 := hle j i hj hi
  exact ⟨h1, by omega, h2⟩
theorem eqv_Ms : ∀ Ms : List Mat, PyData.eqvAll (Ms.map fun M => PyData.list (dM M)) (Ms.map fun M => PyData.list (dM M)) = true
  | [] => rfl
  | M :: Ms => by
    show (PyData.eqvAll (dM M) (dM M) && PyData.eqvAll (Ms.map fun M => PyData.list (dM M)) (Ms.map fun M => PyData.list (dM M))) = true
    rw [eqv_M, eqv_Ms Ms]
    simp
theorem ways_pos (n : Nat) (f : Fun2) : 0 < (waysL n f).length := List.length_pos_of_mem (ways_pre0 n f)
theorem reachM_len (n : Nat) (f : Fun2) : (reachM n f).length = (waysL n f).length := by unfold reachM sortMat; rw [List.length_mergeSort, List.length_map]
theorem modN (c : Int) {n : Nat} (hn : 1 ≤ n) : ∃ b : Nat, c % (n : Int) = (b : Int) ∧ b < n := ⟨(c % (n : Int)).toNat, by have := Int.emod_nonneg c (show (n : Int) ≠ 0 by omega); omega, by have := Int.emod_lt_of_pos c (show (0 : Int) < n by omega); have := Int.emod_nonneg c (show (n : Int) ≠ 0 by omega); omega⟩
section
variable {K : Frag} {σ : St} {H : Hp} {t1 t2 te : TE} {t : TT} {a d x y : Addr} {n : Nat} {f g : Fun2} {M N : Mat} {Ms : List Mat} {C C1 C2 : Addr} {E : XK}
theorem spr_least {C1 C2 a : Addr} {H : Hp} {n : Nat} {f : Nat → Nat → Int} (hf : FormOf n f) (h4 : n ≤ 4) (hM : LLI K H a (Fm n f)) : SpR (sp_least K C1 C2) [.ref a] H (RM (leastM n f)) := fun H1 e1 Q q E =>
  ⟨a, _, rfl, hM.mono e1, small_fm (by omega), fun hF => absurd (fmI hf) hF, fun n' f' e hf' => by
    obtain ⟨rfl, ee⟩ := fm_inj e
    refine ⟨fun z => by omega, fun _ H' p e2 hO => q _ H' e2 ⟨p, rfl, ?_⟩⟩
    rw [leastM_ext ee]
    exact hO⟩
theorem er_leastR (hf : FormOf n f) (h4 : n ≤ 4) (h1 : Er t1 σ H (RM (Fm n f))) : Er (tCall (sp_least K C1 C2) [] E (tCons t1 tNil)) σ H (RM (leastM n f)) :=
  er_callR1 mon_RM h1 ea_nil fun v1 G1 G2 G3 g1 g2 g3 ⟨c, hc, hOc⟩ => by
    subst hc
    exact spr_least hf h4 (hOc.lli.mono g3)
theorem er_leastV (hf : FormOf n f) (h4 : n ≤ 4) (h1 : Ev t1 σ H (.ref a)) (hM : LLI K H a (Fm n f)) : Er (tCall (sp_least K C1 C2) [] E (tCons t1 tNil)) σ H (RM (leastM n f)) := er_call mon_RM (ea_cons h1 ea_nil) (spr_least hf h4 hM)
theorem spr_told (hf : FormOf n f) (h4 : n ≤ 4) (h20 : (waysL n f).length ≤ 20) (hM : LLI K H a (Fm n f)) : SpR (sp__law_told11 K) [.ref a] H (R3M (reachM n f)) := fun H1 e1 Q q E =>
  ⟨a, n, f, rfl, hM.mono e1, hf, h4, fun z => by omega, fun _ H' p e hO => q _ H' e ⟨p, rfl, hO⟩⟩
theorem er_toldR (hf : FormOf n f) (h4 : n ≤ 4) (h20 : (waysL n f).length ≤ 20) (h1 : Er t1 σ H (RM (Fm n f))) : Er (tCall (sp__law_told11 K) [] E (tCons t1 tNil)) σ H (R3M (reachM n f)) :=
  er_callR1 mon_R3M h1 ea_nil fun v1 G1 G2 G3 g1 g2 g3 ⟨c, hc, hOc⟩ => by
    subst hc
    exact spr_told hf h4 h20 (hOc.lli.mono g3)
theorem ev_kept0R (hf : FormOf n f) (h1 : Er t1 σ H (RM (Fm n f))) (h2 : ∀ G, Ex H G → Ev t2 σ G (.int 0)) : Ev (tOp (rIxT K) (tCall (sp_kept K C) [] E (tCons t1 tNil)) t2) σ H (.int (detL n f)) :=
  ev_opR1 (er_keptR hf h1) (h2 H (Ex.refl _)) fun v G1 G2 g1 g2 ⟨t, p, hv, ht0, ht1, hp⟩ => by
    subst hv
    exact rv_ixT (st_of ht1) (atI_n (i := 0) rfl)
theorem rv_geM (hx : LLI K H x M) (hy : LLI K H y N) : RV (rGeD K) (.ref x) (.ref y) H (.bl (!ltM M N)) := rv_geD (a := M) (b := N) (fun H1 e => (hx.mono e).dp) (fun H1 e => (hy.mono e).dp) (by decide)
theorem rv_eqMs (hx : LL3 K H x Ms) (hy : LL3 K H y Ms) : RV (rEqD K) (.ref x) (.ref y) H (.bl true) := fun G g Q k =>
  ⟨_, _, (hx.mono g).dp, (hy.mono g).dp, shaped_Ms Ms, shaped_Ms Ms, by
    have : PyData.eqv (.list (Ms.map fun M => PyData.list (dM M))) (.list (Ms.map fun M => PyData.list (dM M))) = true := eqv_Ms Ms
    rw [this]
    exact k G (Ex.refl _)⟩
theorem LL3.gets {i : Nat} (h : LL3 K H d Ms) (hM : Ms[i]? = some M) : ∃ x, RV (rIxL K) (.ref d) (.int (i : Int)) H (.ref x) ∧ LLI K H x M := by
  obtain ⟨as, h1, h2⟩ := h
  obtain ⟨x, hx, hy⟩ := paired_get h2 hM
  exact ⟨x, rv_ixL h1 (atI_n (by rw [List.getElem?_map, hx]; rfl)), hy⟩
theorem ev_lenLL3 (h : Ev t1 σ H (.ref d)) (hL : LL3 K H d Ms) : Ev (tCB (rLenS K) (tCons t1 tNil)) σ H (.int (Ms.length : Int)) := by
  obtain ⟨as, h1, h2⟩ := hL
  have := ev_len (K := K) h h1
  rw [List.length_map, h2.length] at this
  exact this
theorem given_none (n : Nat) (v : Nat → V) : given n (fun _ => false) v = [] := by
  unfold given
  simp
/-- over a range from lo: none kept -/
theorem el_lcR2N {ta : TA} {j : Nat} {vs : List Nat} {lo n : Int} (h : EvA ta σ H [.int lo, .int n]) (hn : 0 ≤ lo ∧ lo ≤ 40000 ∧ -100000 ≤ n ∧ n ≤ 40000) (hw : ∀ x, wipe ((wipe σ vs).set j (some x)) vs = wipe σ vs)
    (ht : ∀ (i : Nat) H1, Ex H H1 → lo + (i : Int) < n → EvT t ((wipe σ vs).set j (some (.int (lo + (i : Int))))) H1 false) : EvL (tLc (iRng2 ta) (gName j) t te vs) σ H [] := fun H0 e Q q => h H0 e _ fun H1 e1 => ⟨lo, n, rfl, ⟨by omega, by omega, by omega, by omega⟩, fun Dl hD =>
  lc_range (lo := lo) (n := (n - lo).toNat) (Cw H1 (fun _ => false) (fun _ => .non) Dl) ⟨hD, Ex.new hD, upd_same⟩ (fun i H' hi p => ⟨hw _, cw_turn p (by omega) (ht i H1 (e.trans e1) (by omega)) (fun hf => nomatch hf)⟩) (fun H' p => q Dl H' (fresh_back e1 p.1) (e1.trans p.2.1) (by
    have := p.2.2
    rw [given_none] at this
    exact this))⟩
theorem ev_maxFm {u j : Nat} {p : Addr} (hn1 : 1 ≤ n) (hn6 : n ≤ 6) (hu : σ[u]? = some (some (.ref p))) (hM : LLI K H p (Fm n g)) (hw : ∀ x, wipe ((wipe σ [j]).set j (some x)) [j] = wipe σ [j]) (hj : ∀ x, ((wipe σ [j]).set j (some x))[j]? = some (some x)) :
    Ev (tCB (rMax K) (tCons (tLc (iList K (tVar u)) (gName j) tYes (tCB (rMax K) (tCons (tVar j) tNil)) [j]) tNil)) σ H (.int (maxL ((Fm n g).map maxL))) := by
  have hne : ∀ r, r ∈ Fm n g → r ≠ [] := fun r hr e => by
    subst e
    obtain ⟨i, _, hi⟩ := List.mem_map.mp hr
    have := congrArg List.length hi
    simp at this
    omega
  have hne2 : Fm n g ≠ [] := fun e => by
    have := congrArg List.length e
    rw [fm_len] at this
    simp at this
    omega
  exact ev_max (xs := (Fm n g).map maxL) (el_lcRows maxL (ev_var hu) hM (by rw [fm_len]; omega) hw fun x r H1 e1 hr hx => ev_maxN (ev_var (hj _)) hx (hne r hr)) (by simpa using hne2)
end
section
variable {P : Program} {w : World} {K : Frag} {mg : Str → Option Value} {base : Heap} {k : Nat}
theorem ok__law_told11 (T : Txt K mg) (G_reach : FnOk P w K mg base (L2.CX P w) k T.f_reach T.d_reach ["form"] (sp_reach K T.c_TooMany)) : FnOk P w K mg base CX0 (k + 1) T.f__law_told T.d__law_told ["form"] (sp__law_told11 K) := by
  refine T.F__law_told.ok sc__law_told (fun vs H Q E h => ?_) (fun cdv A outer s H vs Q E hr h => ?_)
  · obtain ⟨a, n, f, rfl, _⟩ := h
    rfl
  · obtain ⟨a, n, f, rfl, hM, hf, h4, q1, q2⟩ := h
    refine ⟨_, (pss_cons (ps_set (i := 1) sc__law_told.nd rfl (.inl rfl) pe_non)
      (pss_cons (ps_try_only (Wout := fun _ _ _ _ => False) rfl rfl ⟨rfl, by decide, .inl T.g_TooMany⟩ takes0
        (fun W pn xe tk _ => by exact (pss_one (ps_set (i := 1) sc__law_told.nd rfl (.inl rfl) (by exact (pe_callS G_reach hr rfl T.m_reach T.F_reach.kp T.b_reach (fun σ => passAt tk σ) (by exact (pa_cons (pv 0) pa_nil)))))))
        (fun a oe cls d pn hz hf => by exact (pss_one (ps_ret pe_non))))
      (pss_one (ps_ret (pv 1))))), ?_⟩
    refine q_asg ev_c fun H1 e1 => ?_
    have hM1 := hM.mono e1
    refine s_asgS (ea_cons (ev_var (v := .ref a) rfl) ea_nil) fun H2 e2 => ⟨a, n, f, rfl, hM1.mono e2, hf, h4, fun h20 H3 e3 => ?_, fun h20 H3 p e3 hO => ?_⟩
    · refine ⟨true, T.x_TooMany.exm T.u_TooMany_TooMany, fun _ y hy => ?_, fun z => nomatch z⟩
      exact s_ret (v := .non) ev_c fun H4 e4 => q1 h20 H4 ((e1.trans e2).trans (e3.trans e4))
    · show tRet (tVar 1) _ _ H3
      exact s_ret (v := .ref p) (ev_var rfl) fun H4 e4 => q2 h20 H4 p ((e1.trans e2).trans (e3.trans e4)) ((hO.mono e4).back (e1.trans e2))
theorem ok_law (T : Txt K mg) (G__law_small : FnOk P w K mg base CX0 k T.f__law_small T.d__law_small ["script", "k"] (sp__law_small K)) (G__law_told : FnOk P w K mg base CX0 k T.f__law_told T.d__law_told ["form"] (sp__law_told11 K)) (G__law_copy : FnOk P w K mg base CX0 k T.f__law_copy T.d__law_copy ["form"] (sp__law_copy K))
    (G_least : FnOk P w K mg base (L2.CX P w) k T.f_least T.d_least ["form"] (sp_least K T.c_NoForm T.c_TooMany)) (G_kept : FnOk P w K mg base (L2.CX P w) k T.f_kept T.d_kept ["form"] (sp_kept K T.c_NoForm)) (G_turned : FnOk P w K mg base (L2.CX P w) k T.f_turned T.d_turned ["form", "box"] (sp_turned K T.c_NoForm T.c_NoBox))
    (G__law_cell : FnOk P w K mg base CX0 k T.f__law_cell T.d__law_cell ["script", "k"] (sp__law_cell K)) (G__law_some_names : FnOk P w K mg base CX0 k T.f__law_some_names T.d__law_some_names ["script", "k", "count"] (sp__law_some_names K)) (G__law_renamed : FnOk P w K mg base CX0 k T.f__law_renamed T.d__law_renamed ["form", "names"] (sp__law_renamed K)) :
    FnOk P w K mg base CX0 (k + 1) T.f_law T.d_law ["script"] (sp_law K) := by
  refine T.F_law.ok sc_law (fun vs H Q E h => ?_) (fun cdv A outer s H vs Q E hr h => ?_)
  · obtain ⟨a, ns, rfl, _⟩ := h
    rfl
  · obtain ⟨a, ns, rfl, hL, hlen, q⟩ := h
    have hL : LI K H a ns := hL
    refine ⟨_, (pss_cons (ps_set (i := 1) sc_law.nd rfl (.inl rfl) (pe_call G__law_small hr rfl T.m__law_small T.F__law_small.kp T.b__law_small .nil pass0 (pa_cons (pv 0) (pa_cons pe_int pa_nil))))
      (pss_cons (ps_set (i := 2) sc_law.nd rfl (.inr rfl) (pe_call G__law_told hr rfl T.m__law_told T.F__law_told.kp T.b__law_told .nil pass0 (pa_cons (pe_call G__law_copy hr rfl T.m__law_copy T.F__law_copy.kp T.b__law_copy .nil pass0 (pa_cons (pv 1) pa_nil)) pa_nil)))
      (pss_cons (ps_if (pt_cmpR op_isN (pv 2) pe_non (nomark _))
        (pss_one (ps_ret pe_bl))
        pss_nil)
      (pss_cons (ps_setLc (i := 3) (own := [("k", 10)]) rfl sc_law.nd rfl rfl (sw_true rfl rfl rfl (by decide +kernel)) (pi_range2 rfl T.b_range (pa_cons pe_int (pa_cons (pe_callB (lenK K) rfl T.b_len PySem.boot_len (pa_cons (pv 2) pa_nil)) pa_nil))) (blkOk_by (own := [("k", 10)]) (N := N_law) (sc := defScope s_law) (by decide +kernel)) (fun _ _ _ _ _ => (pg_name (i := 10) sc_law.nd rfl (.inl rfl))) (fun _ _ _ _ _ => (pts_one (pt_cmpR (geDK K hr.units) (pe_ix (ixL K) (pv 2) (pe_op op_sub (pv 10) pe_int) (fun _ _ => rfl)) (pe_ix (ixL K) (pv 2) (pv 10) (fun _ _ => rfl)) (nomark _)))) (fun _ _ _ _ _ => (pv 10)))
      (pss_cons (ps_if (PW.pt (pw_or (pt_cmpR op_gt (pe_callB (lenK K) rfl T.b_len PySem.boot_len (pa_cons (pv 2) pa_nil)) pe_int (nomark _)) (pw_or1 (pt_cmpR op_gt (pe_callB (lenK K) rfl T.b_len PySem.boot_len (pa_cons (pv 3) pa_nil)) pe_int (nomark _)))))
        (pss_one (ps_ret pe_bl))
        pss_nil)
      (pss_cons (ps_if (pt_cmpR (ninDK K hr.units65) (pe_call G_least hr rfl T.m_least T.F_least.kp T.b_least .nil passL (pa_cons (pe_call G__law_copy hr rfl T.m__law_copy T.F__law_copy.kp T.b__law_copy .nil pass0 (pa_cons (pv 1) pa_nil)) pa_nil)) (pv 2) rfl)
        (pss_one (ps_ret pe_bl))
        pss_nil)
      (pss_cons (ps_set (i := 4) sc_law.nd rfl (.inl rfl) (pe_ix (ixT K) (pe_call G_kept hr rfl T.m_kept T.F_kept.kp T.b_kept .nil passL (pa_cons (pe_call G__law_copy hr rfl T.m__law_copy T.F__law_copy.kp T.b__law_copy .nil pass0 (pa_cons (pv 1) pa_nil)) pa_nil)) pe_int (fun _ _ => rfl)))
      (pss_cons (ps_for PassesOwn.never rfl (pi_listK K (pv 2)) (pg_name (i := 5) sc_law.nd rfl (.inl rfl))
        (pss_one (ps_if (pt_cmpR op_le (pe_callB (maxK K rfl) rfl T.b_max (by decide +kernel) (pa_cons (pe_lc (own := [("numbers", 11)]) rfl sc_law.nd (pi_listK K (pv 5)) (blkOk_by (own := [("numbers", 11)]) (N := N_law) (sc := defScope s_law) (by decide +kernel)) (fun _ _ _ _ _ => (pg_name (i := 11) sc_law.nd rfl (.inl rfl))) (fun _ _ _ _ _ => pts_nil) (fun _ _ _ _ _ => (pe_callB (maxK K rfl) rfl T.b_max (by decide +kernel) (pa_cons (pv 11) pa_nil)))) pa_nil)) pe_int (nomark _))
        (pss_cons (ps_if (PW.pt (pw_or (pt_cmpR (neDK K hr.units) (pe_call G_least hr rfl T.m_least T.F_least.kp T.b_least .nil passL (pa_cons (pe_call G__law_copy hr rfl T.m__law_copy T.F__law_copy.kp T.b__law_copy .nil pass0 (pa_cons (pv 5) pa_nil)) pa_nil)) (pv 5) (nomark _)) (pw_or1 (pt_cmpR op_ne (pe_ix (ixT K) (pe_call G_kept hr rfl T.m_kept T.F_kept.kp T.b_kept .nil passL (pa_cons (pe_call G__law_copy hr rfl T.m__law_copy T.F__law_copy.kp T.b__law_copy .nil pass0 (pa_cons (pv 5) pa_nil)) pa_nil)) pe_int (fun _ _ => rfl)) (pv 4) (nomark _)))))
        (pss_one (ps_ret pe_bl))
        pss_nil)
      (pss_one (ps_for PassesOwn.never rfl (pi_range1 rfl T.b_range (pa_cons (pe_callB (lenK K) rfl T.b_len PySem.boot_len (pa_cons (pv 1) pa_nil)) pa_nil)) (pg_name (i := 6) sc_law.nd rfl (.inl rfl))
        (pss_cons (ps_set (i := 7) sc_law.nd rfl (.inl rfl) (pe_call G_turned hr rfl T.m_turned T.F_turned.kp T.b_turned .nil passL (pa_cons (pe_call G__law_copy hr rfl T.m__law_copy T.F__law_copy.kp T.b__law_copy .nil pass0 (pa_cons (pv 5) pa_nil)) (pa_cons (pv 6) pa_nil))))
      (pss_one (ps_if (PW.pt (pw_and (pt_cmpR op_le (pe_callB (maxK K rfl) rfl T.b_max (by decide +kernel) (pa_cons (pe_lc (own := [("numbers", 11)]) rfl sc_law.nd (pi_listK K (pv 7)) (blkOk_by (own := [("numbers", 11)]) (N := N_law) (sc := defScope s_law) (by decide +kernel)) (fun _ _ _ _ _ => (pg_name (i := 11) sc_law.nd rfl (.inl rfl))) (fun _ _ _ _ _ => pts_nil) (fun _ _ _ _ _ => (pe_callB (maxK K rfl) rfl T.b_max (by decide +kernel) (pa_cons (pv 11) pa_nil)))) pa_nil)) pe_int (nomark _)) (pw_and1 (pt_cmpR (ninDK K hr.units65) (pe_call G_least hr rfl T.m_least T.F_least.kp T.b_least .nil passL (pa_cons (pv 7) pa_nil)) (pv 2) rfl))))
        (pss_one (ps_ret pe_bl))
        pss_nil))))))
        pss_nil)))
      (pss_cons (ps_set (i := 8) sc_law.nd rfl (.inl rfl) (pe_ix (ixL K) (pv 2) (pe_op op_modN (pe_call G__law_cell hr rfl T.m__law_cell T.F__law_cell.kp T.b__law_cell .nil pass0 (pa_cons (pv 0) (pa_cons pe_int pa_nil))) (pe_callB (lenK K) rfl T.b_len PySem.boot_len (pa_cons (pv 2) pa_nil))) (fun _ _ => rfl)))
      (pss_cons (ps_if (pt_cmpR op_gt (pe_callB (maxK K rfl) rfl T.b_max (by decide +kernel) (pa_cons (pe_lc (own := [("numbers", 11)]) rfl sc_law.nd (pi_listK K (pv 8)) (blkOk_by (own := [("numbers", 11)]) (N := N_law) (sc := defScope s_law) (by decide +kernel)) (fun _ _ _ _ _ => (pg_name (i := 11) sc_law.nd rfl (.inl rfl))) (fun _ _ _ _ _ => pts_nil) (fun _ _ _ _ _ => (pe_callB (maxK K rfl) rfl T.b_max (by decide +kernel) (pa_cons (pv 11) pa_nil)))) pa_nil)) pe_int (nomark _))
        (pss_one (ps_ret pe_bl))
        pss_nil)
      (pss_cons (ps_set (i := 9) sc_law.nd rfl (.inl rfl) (pe_call G__law_some_names hr rfl T.m__law_some_names T.F__law_some_names.kp T.b__law_some_names .nil pass0 (pa_cons (pv 0) (pa_cons pe_int (pa_cons (pe_callB (lenK K) rfl T.b_len PySem.boot_len (pa_cons (pv 1) pa_nil)) pa_nil)))))
      (pss_one (ps_ret (pe_and (pe_cmpR (eqDK K hr.units) (pe_call G__law_told hr rfl T.m__law_told T.F__law_told.kp T.b__law_told .nil pass0 (pa_cons (pe_call G__law_copy hr rfl T.m__law_copy T.F__law_copy.kp T.b__law_copy .nil pass0 (pa_cons (pv 8) pa_nil)) pa_nil)) (pv 2) (nomark _)) (pe_one (pe_cmpR (eqDK K hr.units) (pe_call G__law_told hr rfl T.m__law_told T.F__law_told.kp T.b__law_told .nil pass0 (pa_cons (pe_call G__law_renamed hr rfl T.m__law_renamed T.F__law_renamed.kp T.b__law_renamed .nil pass0 (pa_cons (pv 1) (pa_cons (pv 9) pa_nil))) pa_nil)) (pv 2) (nomark _))))))))))))))))), ?_⟩
    refine qr_asg (R := RForm 4) (fun G1 g1 Q' q' => ⟨.ref a, rfl, a, ns, 0, rfl, hL.mono g1, by decide, fun n f H' p e hf h4 hO => q' _ H' e ⟨n, f, p, rfl, hf, h4, hO⟩⟩) fun v H1 e1 ⟨n, f, p, hv, hf, h4, hO⟩ => ?_
    subst hv
    have hn1 := hf.1
    have hn6 := hf.2.1
    have hM1 : LLI K H1 p (Fm n f) := hO.lli
    have hcp : ∀ {σ : St} {G : Hp} {u : Nat}, σ[u]? = some (some (.ref p)) → Ex H1 G → Er (tCall (sp__law_copy K) [] E0 (tCons (tVar u) tNil)) σ G (RM (Fm n f)) := fun hu g => er_copy (ev_var hu) (hM1.mono g) (by rw [fm_len]; omega)
    by_cases h20 : 20 < (waysL n f).length
    · refine qr_asg (er_callR1 (R := fun _ _ v => v = V.non) ⟨fun _ h => h, fun _ h => h⟩ (hcp rfl (Ex.refl _)) ea_nil fun v1 G1 G2 G3 g1 g2 g3 ⟨c, hc, hOc⟩ => by
        subst hc
        exact fun G4 g4 Q' q' E' => ⟨c, n, f, rfl, (hOc.lli.mono g3).mono g4, hf, h4, fun _ H' e => q' _ H' e rfl, fun z => by omega⟩) fun v H2 e2 hv => ?_
      subst hv
      exact q_when (b := true) (et_is (et_test (ev_op (ev_var rfl) ev_c (rv_val (z := .bl (decide (V.non = .non))) fun H1 _ Q' q' => ⟨rfl, q'⟩))) (by simp)) (fun _ H3 e3 => s_ret ev_c fun H4 e4 => q H4) (fun hb => nomatch hb)
    have h20 : (waysL n f).length ≤ 20 := by omega
    refine qr_asg (er_toldR hf h4 h20 (hcp rfl (Ex.refl _))) fun v H2 e2 ⟨d, hv, hOd⟩ => ?_
    subst hv
    have hD2 : LL3 K H2 d (reachM n f) := hOd.ll3
    have hlw := reachM_len n f
    have hpos := ways_pos n f
    refine q_when (b := false) (et_is (et_test (ev_op (ev_var rfl) ev_c (rv_val (z := .bl (decide (V.ref d = .non))) fun H1 _ Q' q' => ⟨rfl, q'⟩))) (by simp)) (fun hb => nomatch hb) (fun _ H3 e3 => ?_)
    have hD3 := hD2.mono e3
    refine q_asgL (xs := []) ?_ fun fl H4 hfl e4 hfl4 => ?_
    · refine el_lcR2N (lo := 1) (n := ((reachM n f).length : Int)) (ea_cons ev_c (ea_cons (ev_lenLL3 (ev_var (v := .ref d) rfl) hD3) ea_nil)) (by omega) (fun _ => rfl) fun i G1 g1 hi => ?_
      obtain ⟨M, hM⟩ : ∃ M, (reachM n f)[i]? = some M := ⟨_, List.getElem?_eq_getElem (by omega)⟩
      obtain ⟨N, hN⟩ : ∃ N, (reachM n f)[i + 1]? = some N := ⟨_, List.getElem?_eq_getElem (by omega)⟩
      obtain ⟨x, hx1, hx2⟩ := (hD3.mono g1).gets hM
      obtain ⟨y, hy1, hy2⟩ := (hD3.mono g1).gets hN
      have hlt := reach_rises hM hN
      have e1 : ((i + 1 : Nat) : Int) = 1 + (i : Int) := by omega
      have e2 : (1 + (i : Int)) - 1 = (i : Int) := by omega
      rw [e1] at hy1
      refine et_is (et_test (ev_op (ev_op (ev_var (v := .ref d) rfl) (ev_cast (v := .int (1 + (i : Int) - 1)) (ev_op (ev_var (v := .int (1 + (i : Int))) rfl) ev_c rv_I0) (by rw [e2])) hx1) (ev_op (ev_var (v := .ref d) rfl) (ev_var (v := .int (1 + (i : Int))) rfl) hy1) (rv_geM hx2 hy2))) (by rw [hlt]; rfl)
    have hD4 := hD3.mono e4
    have e14 := (e2.trans e3).trans e4
    refine q_when (b := false) (et_is (et_or (et_test (ev_op (ev_lenLL3 (ev_var (v := .ref d) rfl) hD4) ev_c rv_I0)) fun _ => et_test (ev_op (ev_len (ev_var (v := .ref fl) rfl) (sq_of hfl4)) ev_c rv_I0)) (by simp; omega)) (fun hb => nomatch hb) (fun _ H5 e5 => ?_)
    have hD5 := hD4.mono e5
    have e15 := e14.trans e5
    have hown : leastM n f ∈ reachM n f := reach_mem.mpr ((names_iff h20).mpr ⟨f, .base, rfl⟩)
    refine q_when (b := false) (et_is (et_test (ev_opR1 (z := .bl (!decide (leastM n f ∈ reachM n f))) (er_leastR hf h4 (hcp rfl e15)) (ev_var (v := .ref d) rfl) fun v G1 G2 g1 g2 ⟨x, hv, hx⟩ => by
      subst hv
      exact rv_ninMs hx.lli (hD5.mono (g1.trans g2)))) (by simp [hown])) (fun hb => nomatch hb) (fun _ H6 e6 => ?_)
    have hD6 := hD5.mono e6
    have e16 := e15.trans e6
    refine q_asg (ev_kept0R hf (hcp rfl e16) fun _ _ => ev_c) fun H7 e7 => ?_
    have hD7 := hD6.mono e7
    have e17 := e16.trans e7
    obtain ⟨as, hA, hAP⟩ := id hD7
    have hAl := hAP.length
    refine q_forL (xs := as.map V.ref) (ev_var (v := .ref d) rfl) hA (fun i σ' H' => ∃ x5 x6 x7, σ' = [some (.ref a), some (.ref p), some (.ref d), some (.ref fl), some (.int (detL n f)), x5, x6, x7, none, none, none, none] ∧ Ex H7 H') (fun H8 e8 => ⟨_, _, _, rfl, e8⟩) (fun i σ' H' _ hP => by obtain ⟨x5, x6, x7, rfl, e⟩ := hP; exact ex_l e hA) (fun i x σ' H8 hx hP => ?_) (fun σ' H8 hP => ?_)
    · obtain ⟨x5, x6, x7, rfl, e8⟩ := hP
      rw [List.getElem?_map] at hx
      cases hax : as[i]? with
      | none => rw [hax] at hx; cases hx
      | some c =>
        rw [hax] at hx
        cases hx
        obtain ⟨M, hM, hcM⟩ := paired_getL hAP hax
        have hmem := List.mem_of_getElem? hM
        obtain ⟨g, rfl, hlg, hsg, hdg, hng⟩ := reach_form hf hmem
        have hG8 := hcM.mono e8
        have hD8 := hD7.mono e8
        refine s_when (et_test (ev_op (ev_maxFm (u := 5) hn1 hn6 rfl hG8 (fun _ => rfl) (fun _ => rfl)) ev_c rv_I0)) (fun hk H9 e9 => ?_) (fun _ H9 e9 => ⟨_, _, _, rfl, e8.trans e9⟩)
        rw [decide_eq_true_eq] at hk
        have hg := max_form hn1 hn6 hsg hk
        have hG9 := hG8.mono e9
        have hgc : ∀ {σ : St} {G : Hp}, σ[5]? = some (some (.ref c)) → Ex H9 G → Er (tCall (sp__law_copy K) [] E0 (tCons (tVar 5) tNil)) σ G (RM (Fm n g)) := fun hu e => er_copy (ev_var hu) (hG9.mono e) (by rw [fm_len]; omega)
        refine q_when (b := false) (et_is (et_or (et_test (ev_opR1 (z := .bl (!decide (leastM n g = Fm n g))) (er_leastR hg h4 (hgc rfl (Ex.refl _))) (ev_var (v := .ref c) rfl) fun v G1 G2 g1 g2 ⟨x, hv, hx⟩ => by
          subst hv
          exact rv_neM hx.lli (hG9.mono (g1.trans g2)))) fun _ => et_test (ev_op (ev_kept0R hg (hgc rfl (Ex.refl _)) fun _ _ => ev_c) (ev_var (v := .int (detL n f)) rfl) (rv_ne rfl))) (by rw [hlg, hdg]; simp)) (fun hb => nomatch hb) (fun _ H10 e10 => ?_)
        have e110 := ((e17.trans e8).trans e9).trans e10
        refine s_forR1 (n := (n : Int)) (ea_cons (ev_lenFm (ev_var (v := .ref p) rfl) (hM1.mono e110)) ea_nil) (by omega) (fun i σ' H' => ∃ x6 x7, σ' = [some (.ref a), some (.ref p), some (.ref d), some (.ref fl), some (.int (detL n f)), some (.ref c), x6, x7, none, none, none, none] ∧ Ex H10 H') (fun H11 e11 => ⟨_, _, rfl, e11⟩) (fun b σ' H11 hb hP => ?_) (fun σ' H11 hP => ?_)
        · obtain ⟨x6, x7, rfl, e11⟩ := hP
          have hbn : b < n := by omega
          refine qr_asg (er_turnedR (C1 := T.c_NoForm) (C2 := T.c_NoBox) hg hbn (hgc rfl (e10.trans e11)) (ev_var (v := .int (b : Int)) rfl)) fun v H12 e12 ⟨u, hv, hu⟩ => ?_
          subst hv
          have hU : LLI K H12 u (Fm n (turnF g b)) := hu.lli
          have hin : leastM n (turnF g b) ∈ reachM n f := reach_mem.mpr ((names_iff h20).mpr (hng.trans ⟨_, Rch.base.step hbn, rfl⟩))
          have hD12 := ((hD8.mono e9).mono (e10.trans e11)).mono e12
          refine s_when (b := decide (maxL ((Fm n (turnF g b)).map maxL) ≤ 99) && !decide (leastM n (turnF g b) ∈ reachM n f)) (et_and (et_test (ev_op (ev_maxFm (u := 7) hn1 hn6 rfl hU (fun _ => rfl) (fun _ => rfl)) ev_c rv_I0)) fun hk => et_test (ev_opR1 (er_leastV (max_form hn1 hn6 (turnF_skew hsg hbn) (of_decide_eq_true hk)) h4 (ev_var (v := .ref u) rfl) hU) (ev_var (v := .ref d) rfl) fun v G1 G2 g1 g2 ⟨x, hv, hx⟩ => by
            subst hv
            exact rv_ninMs hx.lli (hD12.mono (g1.trans g2)))) (fun hb => ?_) (fun _ H13 e13 => ⟨_, _, rfl, (e11.trans e12).trans e13⟩)
          rw [Bool.and_eq_true] at hb
          have := hb.2
          simp [hin] at this
        · obtain ⟨x6, x7, rfl, e11⟩ := hP
          exact ⟨_, _, _, rfl, (e8.trans e9).trans (e10.trans e11)⟩
    · obtain ⟨x5, x6, x7, rfl, e8⟩ := hP
      have hD8 := hD7.mono e8
      have e18 := e17.trans e8
      have e08 := e1.trans e18
      obtain ⟨o, ho, hol⟩ := modN (cellV ns 20) (show 1 ≤ (reachM n f).length by omega)
      obtain ⟨M, hM⟩ : ∃ M, (reachM n f)[o]? = some M := ⟨_, List.getElem?_eq_getElem hol⟩
      obtain ⟨c, hc1, hc2⟩ := hD8.gets hM
      obtain ⟨g, rfl, hlg, hsg, hdg, hng⟩ := reach_form hf (List.mem_of_getElem? hM)
      have hidx : Ev (tOp (rI (fun _ j => j ≠ 0) fun i j => .int (i.fmod j)) (tCall (sp__law_cell K) [] E0 (tCons (tVar 0) (tCons (tC (.int 20)) tNil))) (tCB (rLenS K) (tCons (tVar 2) tNil))) [some (.ref a), some (.ref p), some (.ref d), some (.ref fl), some (.int (detL n f)), x5, x6, x7, none, none, none, none] H8 (.int (o : Int)) := by
        have := ev_mod (ev_cv (K := K) (E := E0) (j := 20) (σ := [some (.ref a), some (.ref p), some (.ref d), some (.ref fl), some (.int (detL n f)), x5, x6, x7, none, none, none, none]) (hL.mono e08) (ea_cons (ev_var (i := 0) rfl) (ea_cons (ev_c (v := .int 20)) ea_nil)) (by decide)) (ev_lenLL3 (ev_var (v := .ref d) (i := 2) rfl) hD8) (by omega)
        rw [ho] at this
        exact this
      refine q_asg (ev_op (ev_var (v := .ref d) rfl) hidx hc1) fun H9 e9 => ?_
      have hG9 := hc2.mono e9
      refine q_when (et_test (ev_op (ev_maxFm (u := 8) hn1 hn6 rfl hG9 (fun _ => rfl) (fun _ => rfl)) ev_c rv_I0)) (fun hk H10 e10 => s_ret ev_c fun H11 e11 => q H11) (fun hk H10 e10 => ?_)
      rw [decide_eq_false_iff_not] at hk
      have hg := max_form hn1 hn6 hsg (by omega)
      have e810 := e9.trans e10
      have e110 := e18.trans e810
      refine qr_asg (R := fun G1 G2 v => ∃ ps z, v = .ref z ∧ Names n ps ∧ OLI G1 G2 z (nI ps)) (er_call ⟨fun e ⟨ps, z, h1, h2, h3⟩ => ⟨ps, z, h1, h2, h3.mono e⟩, fun e ⟨ps, z, h1, h2, h3⟩ => ⟨ps, z, h1, h2, h3.back e⟩⟩ (ea_cons (ev_var (v := .ref a) (i := 0) rfl) (ea_cons (ev_c (v := .int 21)) (ea_cons (ev_lenFm (K := K) (n := n) (f := f) (ta := tVar 1) (ev_var rfl) (hM1.mono e110)) ea_nil))) fun G1 g1 Q' q' E' =>
        ⟨a, ns, 21, n, rfl, hL.mono ((e1.trans e110).trans g1), by decide, by omega, fun ps G3 nm g3 hps hN => q' _ G3 g3 ⟨ps, nm, rfl, hps, hN⟩⟩) fun v H11 e11 ⟨ps, z, hv, hps, hN⟩ => ?_
      subst hv
      have e111 := e110.trans e11
      have hD11 := hD8.mono (e810.trans e11)
      obtain ⟨r1, r2⟩ := reach_same h20 hng
      obtain ⟨r3, r4⟩ := reach_same (g := renF f ps) h20 ⟨f, .base, (least_ren hps).symm⟩
      have hz : LI K H11 z (nI ps) := hN.li
      have t1 := er_toldR (K := K) (E := E0) hg h4 r1 (er_copy (K := K) (E := E0) (σ := [some (.ref a), some (.ref p), some (.ref d), some (.ref fl), some (.int (detL n f)), x5, x6, x7, some (.ref c), some (.ref z), none, none]) (te := tVar 8) (ev_var rfl) (hG9.mono (e10.trans e11)) (by rw [fm_len]; omega))
      have t2 := er_toldR (K := K) (E := E0) (renF_ok hf hps) h4 r3 (er_ren (K := K) (E := E0) (σ := [some (.ref a), some (.ref p), some (.ref d), some (.ref fl), some (.int (detL n f)), x5, x6, x7, some (.ref c), some (.ref z), none, none]) (t1 := tVar 1) (t2 := tVar 9) (by omega) hps (ev_var (v := .ref p) rfl) (hM1.mono e111) (ev_var (v := .ref z) rfl) hz)
      rw [r2] at t1
      rw [r4] at t2
      refine s_ret (v := .bl true) (ev_cast (ev_andV (a := true) (b := true) (ev_opR1 t1 (ev_var (v := .ref d) rfl) fun v G1 G2 g1 g2 ⟨x, hv, hx⟩ => by
        subst hv
        exact rv_eqMs hx.ll3 (hD11.mono (g1.trans g2))) fun _ => ev_opR1 t2 (ev_var (v := .ref d) rfl) fun v G1 G2 g1 g2 ⟨x, hv, hx⟩ => by
        subst hv
        exact rv_eqMs hx.ll3 (hD11.mono (g1.trans g2))) rfl) fun H12 e12 => q H12
end
section
variable {P : Program} {w : World} {K : Frag} {mg : Str → Option Value} {base : Heap}
abbrev LEVEL : Nat := 16
theorem law_ok (T : Txt K mg) : FnOk P w K mg base CX0 LEVEL T.f_law T.d_law ["script"] (sp_law K) := by
  have g1 := ok_is_form (P := P) (w := w) (base := base) (k := 0) T
  have g2 := ok_must_form T g1
  have g3 := ok_must_be_few T g2
  have h1 := ok_all_names (P := P) (w := w) (base := base) (k := 2) T
  have h2 := ok_renamed_by (P := P) (w := w) (base := base) (k := 2) T
  have h3 := ok_least_by T h1 h2
  have h4 := ok_key_of T h3
  have t1 := ok_through (P := P) (w := w) (base := base) (k := 3) T
  have t2 := ok_turned_by T t1
  have h5 := ok_ways_from (k := 5) T (g3.mono (by decide)) h4 t2
  have h6 := ok_reach T h5
  have h7 := ok__law_told11 T h6
  have f3 := ok_determinant (P := P) (w := w) (base := base) (k := 1) T
  have f4 := ok_step_of (P := P) (w := w) (base := base) (k := 1) T
  have f5 := ok_kept T g2 f3 f4
  have f8 := ok_turned (k := 5) T (g2.mono (by decide)) (t2.mono (by decide))
  have f9 := ok_least (k := 4) T (g3.mono (by decide)) h3
  have l1 := ok__law_cell (P := P) (w := w) (base := base) (k := 0) T
  have l2 := ok__law_form T l1
  have l3 := ok__law_copy (P := P) (w := w) (base := base) (k := 0) T
  have l5 := ok__law_renamed (P := P) (w := w) (base := base) (k := 1) T
  have l10 := ok__law_small (k := 2) T (l1.mono (by decide)) l2
  have l13 := ok__law_some_names T l1
  exact (ok_law (k := 10) T (l10.mono (by decide)) (h7.mono (by decide)) (l3.mono (by decide)) (f9.mono (by decide)) (f5.mono (by decide)) (f8.mono (by decide)) (l1.mono (by decide)) (l13.mono (by decide)) (l5.mono (by decide))).mono (by decide)
end
end AT

/-! ### what the top has written; the end -/
namespace AT
open PySem PySem.Spec PyProof.Rows L2 Evl
theorem all_mk {l : PySem.W.OpenLaw} {w : World} {K : Frag} {h : Heap} {mg : Str → Option Value} {fa : Addr} (X : K.In h) (G : h.Ns mainGlobals mg) (hfa : mg "law" = some (.ref fa))
    {f_is_form : Addr} {od_is_form an_is_form : Option Addr} {sl_is_form : Array (Option Value)} {oc_is_form kV_is_form dc_is_form pm_is_form cd_is_form ct_is_form : Value}
    {f_must_form : Addr} {od_must_form an_must_form : Option Addr} {sl_must_form : Array (Option Value)} {oc_must_form kV_must_form dc_must_form pm_must_form cd_must_form ct_must_form : Value}
    {f_through : Addr} {od_through an_through : Option Addr} {sl_through : Array (Option Value)} {oc_through kV_through dc_through pm_through cd_through ct_through : Value}
    {f_turned_by : Addr} {od_turned_by an_turned_by : Option Addr} {sl_turned_by : Array (Option Value)} {oc_turned_by kV_turned_by dc_turned_by pm_turned_by cd_turned_by ct_turned_by : Value}
    {f_turned : Addr} {od_turned an_turned : Option Addr} {sl_turned : Array (Option Value)} {oc_turned kV_turned dc_turned pm_turned cd_turned ct_turned : Value}
    {f_renamed_by : Addr} {od_renamed_by an_renamed_by : Option Addr} {sl_renamed_by : Array (Option Value)} {oc_renamed_by kV_renamed_by dc_renamed_by pm_renamed_by cd_renamed_by ct_renamed_by : Value}
    {f_all_names : Addr} {od_all_names an_all_names : Option Addr} {sl_all_names : Array (Option Value)} {oc_all_names kV_all_names dc_all_names pm_all_names cd_all_names ct_all_names : Value}
    {f_least_by : Addr} {od_least_by an_least_by : Option Addr} {sl_least_by : Array (Option Value)} {oc_least_by kV_least_by dc_least_by pm_least_by cd_least_by ct_least_by : Value}
    {f_must_be_few : Addr} {od_must_be_few an_must_be_few : Option Addr} {sl_must_be_few : Array (Option Value)} {oc_must_be_few kV_must_be_few dc_must_be_few pm_must_be_few cd_must_be_few ct_must_be_few : Value}
    {f_least : Addr} {od_least an_least : Option Addr} {sl_least : Array (Option Value)} {oc_least kV_least dc_least pm_least cd_least ct_least : Value}
    {f_key_of : Addr} {od_key_of an_key_of : Option Addr} {sl_key_of : Array (Option Value)} {oc_key_of kV_key_of dc_key_of pm_key_of cd_key_of ct_key_of : Value}
    {f_ways_from : Addr} {od_ways_from an_ways_from : Option Addr} {sl_ways_from : Array (Option Value)} {oc_ways_from kV_ways_from dc_ways_from pm_ways_from cd_ways_from ct_ways_from : Value}
    {f_reach : Addr} {od_reach an_reach : Option Addr} {sl_reach : Array (Option Value)} {oc_reach kV_reach dc_reach pm_reach cd_reach ct_reach : Value}
    {f_determinant : Addr} {od_determinant an_determinant : Option Addr} {sl_determinant : Array (Option Value)} {oc_determinant kV_determinant dc_determinant pm_determinant cd_determinant ct_determinant : Value}
    {f_step_of : Addr} {od_step_of an_step_of : Option Addr} {sl_step_of : Array (Option Value)} {oc_step_of kV_step_of dc_step_of pm_step_of cd_step_of ct_step_of : Value}
    {f_kept : Addr} {od_kept an_kept : Option Addr} {sl_kept : Array (Option Value)} {oc_kept kV_kept dc_kept pm_kept cd_kept ct_kept : Value}
    {f__law_cell : Addr} {od__law_cell an__law_cell : Option Addr} {sl__law_cell : Array (Option Value)} {oc__law_cell kV__law_cell dc__law_cell pm__law_cell cd__law_cell ct__law_cell : Value}
    {f__law_form : Addr} {od__law_form an__law_form : Option Addr} {sl__law_form : Array (Option Value)} {oc__law_form kV__law_form dc__law_form pm__law_form cd__law_form ct__law_form : Value}
    {f__law_copy : Addr} {od__law_copy an__law_copy : Option Addr} {sl__law_copy : Array (Option Value)} {oc__law_copy kV__law_copy dc__law_copy pm__law_copy cd__law_copy ct__law_copy : Value}
    {f__law_renamed : Addr} {od__law_renamed an__law_renamed : Option Addr} {sl__law_renamed : Array (Option Value)} {oc__law_renamed kV__law_renamed dc__law_renamed pm__law_renamed cd__law_renamed ct__law_renamed : Value}
    {f__law_some_names : Addr} {od__law_some_names an__law_some_names : Option Addr} {sl__law_some_names : Array (Option Value)} {oc__law_some_names kV__law_some_names dc__law_some_names pm__law_some_names cd__law_some_names ct__law_some_names : Value}
    {f__law_small : Addr} {od__law_small an__law_small : Option Addr} {sl__law_small : Array (Option Value)} {oc__law_small kV__law_small dc__law_small pm__law_small cd__law_small ct__law_small : Value}
    {f__law_told : Addr} {od__law_told an__law_told : Option Addr} {sl__law_told : Array (Option Value)} {oc__law_told kV__law_told dc__law_told pm__law_told cd__law_told ct__law_told : Value}
    {f_law : Addr} {od_law an_law : Option Addr} {sl_law : Array (Option Value)} {oc_law kV_law dc_law pm_law cd_law ct_law : Value}
    {t_MOST_BOXES : Tok}
    {t_MOST_ARROWS : Tok}
    {t_MOST_NAMED : Tok}
    {t_MOST_FORMS : Tok}
    {c_TurnError : Addr}
    {c_NoForm : Addr}
    {c_NoBox : Addr}
    {c_TooMany : Addr}
    (a_is_form : PySem.W.nsIn K mainGlobals "is_form" = some (some (.ref f_is_form))) (l_is_form : K.lookup f_is_form = some ⟨oc_is_form, od_is_form, .func (PySem.W.fnOf "is_form" "is_form" (defArgs s_is_form) (defBody s_is_form) (defScope s_is_form) .none kV_is_form dc_is_form pm_is_form an_is_form cd_is_form ct_is_form), sl_is_form⟩) (c_is_form : PySem.W.codeIn K cd_is_form "is_form" = true) (k_is_form : PySem.W.keepIn K (.ref f_is_form) = true)
    (a_must_form : PySem.W.nsIn K mainGlobals "must_form" = some (some (.ref f_must_form))) (l_must_form : K.lookup f_must_form = some ⟨oc_must_form, od_must_form, .func (PySem.W.fnOf "must_form" "must_form" (defArgs s_must_form) (defBody s_must_form) (defScope s_must_form) .none kV_must_form dc_must_form pm_must_form an_must_form cd_must_form ct_must_form), sl_must_form⟩) (c_must_form : PySem.W.codeIn K cd_must_form "must_form" = true) (k_must_form : PySem.W.keepIn K (.ref f_must_form) = true)
    (a_through : PySem.W.nsIn K mainGlobals "through" = some (some (.ref f_through))) (l_through : K.lookup f_through = some ⟨oc_through, od_through, .func (PySem.W.fnOf "through" "through" (defArgs s_through) (defBody s_through) (defScope s_through) .none kV_through dc_through pm_through an_through cd_through ct_through), sl_through⟩) (c_through : PySem.W.codeIn K cd_through "through" = true) (k_through : PySem.W.keepIn K (.ref f_through) = true)
    (a_turned_by : PySem.W.nsIn K mainGlobals "turned_by" = some (some (.ref f_turned_by))) (l_turned_by : K.lookup f_turned_by = some ⟨oc_turned_by, od_turned_by, .func (PySem.W.fnOf "turned_by" "turned_by" (defArgs s_turned_by) (defBody s_turned_by) (defScope s_turned_by) .none kV_turned_by dc_turned_by pm_turned_by an_turned_by cd_turned_by ct_turned_by), sl_turned_by⟩) (c_turned_by : PySem.W.codeIn K cd_turned_by "turned_by" = true) (k_turned_by : PySem.W.keepIn K (.ref f_turned_by) = true)
    (a_turned : PySem.W.nsIn K mainGlobals "turned" = some (some (.ref f_turned))) (l_turned : K.lookup f_turned = some ⟨oc_turned, od_turned, .func (PySem.W.fnOf "turned" "turned" (defArgs s_turned) (defBody s_turned) (defScope s_turned) .none kV_turned dc_turned pm_turned an_turned cd_turned ct_turned), sl_turned⟩) (c_turned : PySem.W.codeIn K cd_turned "turned" = true) (k_turned : PySem.W.keepIn K (.ref f_turned) = true)
    (a_renamed_by : PySem.W.nsIn K mainGlobals "renamed_by" = some (some (.ref f_renamed_by))) (l_renamed_by : K.lookup f_renamed_by = some ⟨oc_renamed_by, od_renamed_by, .func (PySem.W.fnOf "renamed_by" "renamed_by" (defArgs s_renamed_by) (defBody s_renamed_by) (defScope s_renamed_by) .none kV_renamed_by dc_renamed_by pm_renamed_by an_renamed_by cd_renamed_by ct_renamed_by), sl_renamed_by⟩) (c_renamed_by : PySem.W.codeIn K cd_renamed_by "renamed_by" = true) (k_renamed_by : PySem.W.keepIn K (.ref f_renamed_by) = true)
    (a_all_names : PySem.W.nsIn K mainGlobals "all_names" = some (some (.ref f_all_names))) (l_all_names : K.lookup f_all_names = some ⟨oc_all_names, od_all_names, .func (PySem.W.fnOf "all_names" "all_names" (defArgs s_all_names) (defBody s_all_names) (defScope s_all_names) .none kV_all_names dc_all_names pm_all_names an_all_names cd_all_names ct_all_names), sl_all_names⟩) (c_all_names : PySem.W.codeIn K cd_all_names "all_names" = true) (k_all_names : PySem.W.keepIn K (.ref f_all_names) = true)
    (a_least_by : PySem.W.nsIn K mainGlobals "least_by" = some (some (.ref f_least_by))) (l_least_by : K.lookup f_least_by = some ⟨oc_least_by, od_least_by, .func (PySem.W.fnOf "least_by" "least_by" (defArgs s_least_by) (defBody s_least_by) (defScope s_least_by) .none kV_least_by dc_least_by pm_least_by an_least_by cd_least_by ct_least_by), sl_least_by⟩) (c_least_by : PySem.W.codeIn K cd_least_by "least_by" = true) (k_least_by : PySem.W.keepIn K (.ref f_least_by) = true)
    (a_must_be_few : PySem.W.nsIn K mainGlobals "must_be_few" = some (some (.ref f_must_be_few))) (l_must_be_few : K.lookup f_must_be_few = some ⟨oc_must_be_few, od_must_be_few, .func (PySem.W.fnOf "must_be_few" "must_be_few" (defArgs s_must_be_few) (defBody s_must_be_few) (defScope s_must_be_few) .none kV_must_be_few dc_must_be_few pm_must_be_few an_must_be_few cd_must_be_few ct_must_be_few), sl_must_be_few⟩) (c_must_be_few : PySem.W.codeIn K cd_must_be_few "must_be_few" = true) (k_must_be_few : PySem.W.keepIn K (.ref f_must_be_few) = true)
    (a_least : PySem.W.nsIn K mainGlobals "least" = some (some (.ref f_least))) (l_least : K.lookup f_least = some ⟨oc_least, od_least, .func (PySem.W.fnOf "least" "least" (defArgs s_least) (defBody s_least) (defScope s_least) .none kV_least dc_least pm_least an_least cd_least ct_least), sl_least⟩) (c_least : PySem.W.codeIn K cd_least "least" = true) (k_least : PySem.W.keepIn K (.ref f_least) = true)
    (a_key_of : PySem.W.nsIn K mainGlobals "key_of" = some (some (.ref f_key_of))) (l_key_of : K.lookup f_key_of = some ⟨oc_key_of, od_key_of, .func (PySem.W.fnOf "key_of" "key_of" (defArgs s_key_of) (defBody s_key_of) (defScope s_key_of) .none kV_key_of dc_key_of pm_key_of an_key_of cd_key_of ct_key_of), sl_key_of⟩) (c_key_of : PySem.W.codeIn K cd_key_of "key_of" = true) (k_key_of : PySem.W.keepIn K (.ref f_key_of) = true)
    (a_ways_from : PySem.W.nsIn K mainGlobals "ways_from" = some (some (.ref f_ways_from))) (l_ways_from : K.lookup f_ways_from = some ⟨oc_ways_from, od_ways_from, .func (PySem.W.fnOf "ways_from" "ways_from" (defArgs s_ways_from) (defBody s_ways_from) (defScope s_ways_from) .none kV_ways_from dc_ways_from pm_ways_from an_ways_from cd_ways_from ct_ways_from), sl_ways_from⟩) (c_ways_from : PySem.W.codeIn K cd_ways_from "ways_from" = true) (k_ways_from : PySem.W.keepIn K (.ref f_ways_from) = true)
    (a_reach : PySem.W.nsIn K mainGlobals "reach" = some (some (.ref f_reach))) (l_reach : K.lookup f_reach = some ⟨oc_reach, od_reach, .func (PySem.W.fnOf "reach" "reach" (defArgs s_reach) (defBody s_reach) (defScope s_reach) .none kV_reach dc_reach pm_reach an_reach cd_reach ct_reach), sl_reach⟩) (c_reach : PySem.W.codeIn K cd_reach "reach" = true) (k_reach : PySem.W.keepIn K (.ref f_reach) = true)
    (a_determinant : PySem.W.nsIn K mainGlobals "determinant" = some (some (.ref f_determinant))) (l_determinant : K.lookup f_determinant = some ⟨oc_determinant, od_determinant, .func (PySem.W.fnOf "determinant" "determinant" (defArgs s_determinant) (defBody s_determinant) (defScope s_determinant) .none kV_determinant dc_determinant pm_determinant an_determinant cd_determinant ct_determinant), sl_determinant⟩) (c_determinant : PySem.W.codeIn K cd_determinant "determinant" = true) (k_determinant : PySem.W.keepIn K (.ref f_determinant) = true)
    (a_step_of : PySem.W.nsIn K mainGlobals "step_of" = some (some (.ref f_step_of))) (l_step_of : K.lookup f_step_of = some ⟨oc_step_of, od_step_of, .func (PySem.W.fnOf "step_of" "step_of" (defArgs s_step_of) (defBody s_step_of) (defScope s_step_of) .none kV_step_of dc_step_of pm_step_of an_step_of cd_step_of ct_step_of), sl_step_of⟩) (c_step_of : PySem.W.codeIn K cd_step_of "step_of" = true) (k_step_of : PySem.W.keepIn K (.ref f_step_of) = true)
    (a_kept : PySem.W.nsIn K mainGlobals "kept" = some (some (.ref f_kept))) (l_kept : K.lookup f_kept = some ⟨oc_kept, od_kept, .func (PySem.W.fnOf "kept" "kept" (defArgs s_kept) (defBody s_kept) (defScope s_kept) .none kV_kept dc_kept pm_kept an_kept cd_kept ct_kept), sl_kept⟩) (c_kept : PySem.W.codeIn K cd_kept "kept" = true) (k_kept : PySem.W.keepIn K (.ref f_kept) = true)
    (a__law_cell : PySem.W.nsIn K mainGlobals "_law_cell" = some (some (.ref f__law_cell))) (l__law_cell : K.lookup f__law_cell = some ⟨oc__law_cell, od__law_cell, .func (PySem.W.fnOf "_law_cell" "_law_cell" (defArgs s__law_cell) (defBody s__law_cell) (defScope s__law_cell) .none kV__law_cell dc__law_cell pm__law_cell an__law_cell cd__law_cell ct__law_cell), sl__law_cell⟩) (c__law_cell : PySem.W.codeIn K cd__law_cell "_law_cell" = true) (k__law_cell : PySem.W.keepIn K (.ref f__law_cell) = true)
    (a__law_form : PySem.W.nsIn K mainGlobals "_law_form" = some (some (.ref f__law_form))) (l__law_form : K.lookup f__law_form = some ⟨oc__law_form, od__law_form, .func (PySem.W.fnOf "_law_form" "_law_form" (defArgs s__law_form) (defBody s__law_form) (defScope s__law_form) .none kV__law_form dc__law_form pm__law_form an__law_form cd__law_form ct__law_form), sl__law_form⟩) (c__law_form : PySem.W.codeIn K cd__law_form "_law_form" = true) (k__law_form : PySem.W.keepIn K (.ref f__law_form) = true)
    (a__law_copy : PySem.W.nsIn K mainGlobals "_law_copy" = some (some (.ref f__law_copy))) (l__law_copy : K.lookup f__law_copy = some ⟨oc__law_copy, od__law_copy, .func (PySem.W.fnOf "_law_copy" "_law_copy" (defArgs s__law_copy) (defBody s__law_copy) (defScope s__law_copy) .none kV__law_copy dc__law_copy pm__law_copy an__law_copy cd__law_copy ct__law_copy), sl__law_copy⟩) (c__law_copy : PySem.W.codeIn K cd__law_copy "_law_copy" = true) (k__law_copy : PySem.W.keepIn K (.ref f__law_copy) = true)
    (a__law_renamed : PySem.W.nsIn K mainGlobals "_law_renamed" = some (some (.ref f__law_renamed))) (l__law_renamed : K.lookup f__law_renamed = some ⟨oc__law_renamed, od__law_renamed, .func (PySem.W.fnOf "_law_renamed" "_law_renamed" (defArgs s__law_renamed) (defBody s__law_renamed) (defScope s__law_renamed) .none kV__law_renamed dc__law_renamed pm__law_renamed an__law_renamed cd__law_renamed ct__law_renamed), sl__law_renamed⟩) (c__law_renamed : PySem.W.codeIn K cd__law_renamed "_law_renamed" = true) (k__law_renamed : PySem.W.keepIn K (.ref f__law_renamed) = true)
    (a__law_some_names : PySem.W.nsIn K mainGlobals "_law_some_names" = some (some (.ref f__law_some_names))) (l__law_some_names : K.lookup f__law_some_names = some ⟨oc__law_some_names, od__law_some_names, .func (PySem.W.fnOf "_law_some_names" "_law_some_names" (defArgs s__law_some_names) (defBody s__law_some_names) (defScope s__law_some_names) .none kV__law_some_names dc__law_some_names pm__law_some_names an__law_some_names cd__law_some_names ct__law_some_names), sl__law_some_names⟩) (c__law_some_names : PySem.W.codeIn K cd__law_some_names "_law_some_names" = true) (k__law_some_names : PySem.W.keepIn K (.ref f__law_some_names) = true)
    (a__law_small : PySem.W.nsIn K mainGlobals "_law_small" = some (some (.ref f__law_small))) (l__law_small : K.lookup f__law_small = some ⟨oc__law_small, od__law_small, .func (PySem.W.fnOf "_law_small" "_law_small" (defArgs s__law_small) (defBody s__law_small) (defScope s__law_small) .none kV__law_small dc__law_small pm__law_small an__law_small cd__law_small ct__law_small), sl__law_small⟩) (c__law_small : PySem.W.codeIn K cd__law_small "_law_small" = true) (k__law_small : PySem.W.keepIn K (.ref f__law_small) = true)
    (a__law_told : PySem.W.nsIn K mainGlobals "_law_told" = some (some (.ref f__law_told))) (l__law_told : K.lookup f__law_told = some ⟨oc__law_told, od__law_told, .func (PySem.W.fnOf "_law_told" "_law_told" (defArgs s__law_told) (defBody s__law_told) (defScope s__law_told) .none kV__law_told dc__law_told pm__law_told an__law_told cd__law_told ct__law_told), sl__law_told⟩) (c__law_told : PySem.W.codeIn K cd__law_told "_law_told" = true) (k__law_told : PySem.W.keepIn K (.ref f__law_told) = true)
    (a_law : PySem.W.nsIn K mainGlobals "law" = some (some (.ref f_law))) (l_law : K.lookup f_law = some ⟨oc_law, od_law, .func (PySem.W.fnOf "law" "law" (defArgs s_law) (defBody s_law) (defScope s_law) .none kV_law dc_law pm_law an_law cd_law ct_law), sl_law⟩) (c_law : PySem.W.codeIn K cd_law "law" = true) (k_law : PySem.W.keepIn K (.ref f_law) = true)
    (m_MOST_BOXES : PySem.W.nsIn K mainGlobals "MOST_BOXES" = some (some (.int 6 t_MOST_BOXES)))
    (m_MOST_ARROWS : PySem.W.nsIn K mainGlobals "MOST_ARROWS" = some (some (.int 99 t_MOST_ARROWS)))
    (m_MOST_NAMED : PySem.W.nsIn K mainGlobals "MOST_NAMED" = some (some (.int 4 t_MOST_NAMED)))
    (m_MOST_FORMS : PySem.W.nsIn K mainGlobals "MOST_FORMS" = some (some (.int 20 t_MOST_FORMS)))
    (g_TurnError : PySem.W.nsIn K mainGlobals "TurnError" = some (some (.ref c_TurnError)))
    (xxn_TurnError : PySem.W.excIn K c_TurnError [.type "ValueError", .type "Exception", .type "BaseException", .type "object"] "ValueError.__new__" = true)
    (xkp_TurnError : PySem.W.keepIn K (.ref c_TurnError) = true)
    (xbs_TurnError : PySem.W.subIn K (.ref c_TurnError) (.type "BaseException") = some true)
    (xty_TurnError : PySem.W.typeIn K (.ref c_TurnError) = some (.type "type"))
    (xic_TurnError : PySem.W.isClsIn K c_TurnError = true)
    (xhg_TurnError : PySem.W.findIn K (.ref c_TurnError) "__getattribute__" = some (some (.builtin "BaseException.__getattribute__")))
    (xhk_TurnError : PySem.W.findIn K (.ref c_TurnError) "__getattr__" = some none)
    (xhd_TurnError : PySem.W.hasDictIn K c_TurnError = true)
    (xha_TurnError : PySem.W.findIn K (.ref c_TurnError) "__class__" = some (some (.builtin "object.__class__")))
    (xhn_TurnError : PySem.W.specialIn K (.builtin "object.__class__") "__get__" = some (some (.builtin "getset_descriptor.__get__")))
    (xht_TurnError : PySem.W.takesIn K (.builtin "object.__class__") = some true)
    (xhm_TurnError : PySem.W.mroIn K c_TurnError (.type "object") = some true)
    (xvs_TurnError : PySem.W.subIn K (.ref c_TurnError) (.type "ValueError") = some true)
    (g_NoForm : PySem.W.nsIn K mainGlobals "NoForm" = some (some (.ref c_NoForm)))
    (xxn_NoForm : PySem.W.excIn K c_NoForm [.type "ValueError", .type "Exception", .type "BaseException", .type "object"] "ValueError.__new__" = true)
    (xkp_NoForm : PySem.W.keepIn K (.ref c_NoForm) = true)
    (xbs_NoForm : PySem.W.subIn K (.ref c_NoForm) (.type "BaseException") = some true)
    (xty_NoForm : PySem.W.typeIn K (.ref c_NoForm) = some (.type "type"))
    (xic_NoForm : PySem.W.isClsIn K c_NoForm = true)
    (xhg_NoForm : PySem.W.findIn K (.ref c_NoForm) "__getattribute__" = some (some (.builtin "BaseException.__getattribute__")))
    (xhk_NoForm : PySem.W.findIn K (.ref c_NoForm) "__getattr__" = some none)
    (xhd_NoForm : PySem.W.hasDictIn K c_NoForm = true)
    (xha_NoForm : PySem.W.findIn K (.ref c_NoForm) "__class__" = some (some (.builtin "object.__class__")))
    (xhn_NoForm : PySem.W.specialIn K (.builtin "object.__class__") "__get__" = some (some (.builtin "getset_descriptor.__get__")))
    (xht_NoForm : PySem.W.takesIn K (.builtin "object.__class__") = some true)
    (xhm_NoForm : PySem.W.mroIn K c_NoForm (.type "object") = some true)
    (xvs_NoForm : PySem.W.subIn K (.ref c_NoForm) (.type "ValueError") = some true)
    (g_NoBox : PySem.W.nsIn K mainGlobals "NoBox" = some (some (.ref c_NoBox)))
    (xxn_NoBox : PySem.W.excIn K c_NoBox [.type "ValueError", .type "Exception", .type "BaseException", .type "object"] "ValueError.__new__" = true)
    (xkp_NoBox : PySem.W.keepIn K (.ref c_NoBox) = true)
    (xbs_NoBox : PySem.W.subIn K (.ref c_NoBox) (.type "BaseException") = some true)
    (xty_NoBox : PySem.W.typeIn K (.ref c_NoBox) = some (.type "type"))
    (xic_NoBox : PySem.W.isClsIn K c_NoBox = true)
    (xhg_NoBox : PySem.W.findIn K (.ref c_NoBox) "__getattribute__" = some (some (.builtin "BaseException.__getattribute__")))
    (xhk_NoBox : PySem.W.findIn K (.ref c_NoBox) "__getattr__" = some none)
    (xhd_NoBox : PySem.W.hasDictIn K c_NoBox = true)
    (xha_NoBox : PySem.W.findIn K (.ref c_NoBox) "__class__" = some (some (.builtin "object.__class__")))
    (xhn_NoBox : PySem.W.specialIn K (.builtin "object.__class__") "__get__" = some (some (.builtin "getset_descriptor.__get__")))
    (xht_NoBox : PySem.W.takesIn K (.builtin "object.__class__") = some true)
    (xhm_NoBox : PySem.W.mroIn K c_NoBox (.type "object") = some true)
    (xvs_NoBox : PySem.W.subIn K (.ref c_NoBox) (.type "ValueError") = some true)
    (g_TooMany : PySem.W.nsIn K mainGlobals "TooMany" = some (some (.ref c_TooMany)))
    (xxn_TooMany : PySem.W.excIn K c_TooMany [.type "ValueError", .type "Exception", .type "BaseException", .type "object"] "ValueError.__new__" = true)
    (xkp_TooMany : PySem.W.keepIn K (.ref c_TooMany) = true)
    (xbs_TooMany : PySem.W.subIn K (.ref c_TooMany) (.type "BaseException") = some true)
    (xty_TooMany : PySem.W.typeIn K (.ref c_TooMany) = some (.type "type"))
    (xic_TooMany : PySem.W.isClsIn K c_TooMany = true)
    (xhg_TooMany : PySem.W.findIn K (.ref c_TooMany) "__getattribute__" = some (some (.builtin "BaseException.__getattribute__")))
    (xhk_TooMany : PySem.W.findIn K (.ref c_TooMany) "__getattr__" = some none)
    (xhd_TooMany : PySem.W.hasDictIn K c_TooMany = true)
    (xha_TooMany : PySem.W.findIn K (.ref c_TooMany) "__class__" = some (some (.builtin "object.__class__")))
    (xhn_TooMany : PySem.W.specialIn K (.builtin "object.__class__") "__get__" = some (some (.builtin "getset_descriptor.__get__")))
    (xht_TooMany : PySem.W.takesIn K (.builtin "object.__class__") = some true)
    (xhm_TooMany : PySem.W.mroIn K c_TooMany (.type "object") = some true)
    (xvs_TooMany : PySem.W.subIn K (.ref c_TooMany) (.type "ValueError") = some true)
    (u_TurnError_TurnError : PySem.W.subIn K (.ref c_TurnError) (.ref c_TurnError) = some true)
    (u_TurnError_NoForm : PySem.W.subIn K (.ref c_TurnError) (.ref c_NoForm) = some false)
    (u_TurnError_NoBox : PySem.W.subIn K (.ref c_TurnError) (.ref c_NoBox) = some false)
    (u_TurnError_TooMany : PySem.W.subIn K (.ref c_TurnError) (.ref c_TooMany) = some false)
    (u_NoForm_TurnError : PySem.W.subIn K (.ref c_NoForm) (.ref c_TurnError) = some true)
    (u_NoForm_NoForm : PySem.W.subIn K (.ref c_NoForm) (.ref c_NoForm) = some true)
    (u_NoForm_NoBox : PySem.W.subIn K (.ref c_NoForm) (.ref c_NoBox) = some false)
    (u_NoForm_TooMany : PySem.W.subIn K (.ref c_NoForm) (.ref c_TooMany) = some false)
    (u_NoBox_TurnError : PySem.W.subIn K (.ref c_NoBox) (.ref c_TurnError) = some true)
    (u_NoBox_NoForm : PySem.W.subIn K (.ref c_NoBox) (.ref c_NoForm) = some false)
    (u_NoBox_NoBox : PySem.W.subIn K (.ref c_NoBox) (.ref c_NoBox) = some true)
    (u_NoBox_TooMany : PySem.W.subIn K (.ref c_NoBox) (.ref c_TooMany) = some false)
    (u_TooMany_TurnError : PySem.W.subIn K (.ref c_TooMany) (.ref c_TurnError) = some true)
    (u_TooMany_NoForm : PySem.W.subIn K (.ref c_TooMany) (.ref c_NoForm) = some false)
    (u_TooMany_NoBox : PySem.W.subIn K (.ref c_TooMany) (.ref c_NoBox) = some false)
    (u_TooMany_TooMany : PySem.W.subIn K (.ref c_TooMany) (.ref c_TooMany) = some true)
    (b_len : PySem.W.nsIn K mainGlobals "len" = some none)
    (b_range : PySem.W.nsIn K mainGlobals "range" = some none)
    (b_abs : PySem.W.nsIn K mainGlobals "abs" = some none)
    (b_min : PySem.W.nsIn K mainGlobals "min" = some none)
    (b_tuple : PySem.W.nsIn K mainGlobals "tuple" = some none)
    (b_sorted : PySem.W.nsIn K mainGlobals "sorted" = some none)
    (b_list : PySem.W.nsIn K mainGlobals "list" = some none)
    (b_zip : PySem.W.nsIn K mainGlobals "zip" = some none)
    (b_max : PySem.W.nsIn K mainGlobals "max" = some none)
    : ∃ fd : FuncData, (∀ (s : Shared) (v : Value), BindsTo s fd ⟨[v], []⟩ [("script", v)]) ∧ ∀ base : Heap, K.In base → base.Ns mainGlobals mg → FnOk l.prog w K mg base CX0 LEVEL fa fd ["script"] (sp_law K) := by
  have e := hfa.symm.trans (PySem.W.mg_of X G a_law)
  cases e
  let T : Txt K mg := {
    f_is_form := f_is_form, d_is_form := _, F_is_form := fun_mk (st := s_is_form) l_is_form c_is_form k_is_form, m_is_form := PySem.W.mg_of X G a_is_form,
    b_is_form := (fun_mk (st := s_is_form) l_is_form c_is_form k_is_form).binds (ps := ["form"]) fun _ _ _ _ _ _ us hl => match us, hl with | [_], _ => rfl,
    f_must_form := f_must_form, d_must_form := _, F_must_form := fun_mk (st := s_must_form) l_must_form c_must_form k_must_form, m_must_form := PySem.W.mg_of X G a_must_form,
    b_must_form := (fun_mk (st := s_must_form) l_must_form c_must_form k_must_form).binds (ps := ["form"]) fun _ _ _ _ _ _ us hl => match us, hl with | [_], _ => rfl,
    f_through := f_through, d_through := _, F_through := fun_mk (st := s_through) l_through c_through k_through, m_through := PySem.W.mg_of X G a_through,
    b_through := (fun_mk (st := s_through) l_through c_through k_through).binds (ps := ["one", "other"]) fun _ _ _ _ _ _ us hl => match us, hl with | [_, _], _ => rfl,
    f_turned_by := f_turned_by, d_turned_by := _, F_turned_by := fun_mk (st := s_turned_by) l_turned_by c_turned_by k_turned_by, m_turned_by := PySem.W.mg_of X G a_turned_by,
    b_turned_by := (fun_mk (st := s_turned_by) l_turned_by c_turned_by k_turned_by).binds (ps := ["form", "box"]) fun _ _ _ _ _ _ us hl => match us, hl with | [_, _], _ => rfl,
    f_turned := f_turned, d_turned := _, F_turned := fun_mk (st := s_turned) l_turned c_turned k_turned, m_turned := PySem.W.mg_of X G a_turned,
    b_turned := (fun_mk (st := s_turned) l_turned c_turned k_turned).binds (ps := ["form", "box"]) fun _ _ _ _ _ _ us hl => match us, hl with | [_, _], _ => rfl,
    f_renamed_by := f_renamed_by, d_renamed_by := _, F_renamed_by := fun_mk (st := s_renamed_by) l_renamed_by c_renamed_by k_renamed_by, m_renamed_by := PySem.W.mg_of X G a_renamed_by,
    b_renamed_by := (fun_mk (st := s_renamed_by) l_renamed_by c_renamed_by k_renamed_by).binds (ps := ["form", "names"]) fun _ _ _ _ _ _ us hl => match us, hl with | [_, _], _ => rfl,
    f_all_names := f_all_names, d_all_names := _, F_all_names := fun_mk (st := s_all_names) l_all_names c_all_names k_all_names, m_all_names := PySem.W.mg_of X G a_all_names,
    b_all_names := (fun_mk (st := s_all_names) l_all_names c_all_names k_all_names).binds (ps := ["count"]) fun _ _ _ _ _ _ us hl => match us, hl with | [_], _ => rfl,
    f_least_by := f_least_by, d_least_by := _, F_least_by := fun_mk (st := s_least_by) l_least_by c_least_by k_least_by, m_least_by := PySem.W.mg_of X G a_least_by,
    b_least_by := (fun_mk (st := s_least_by) l_least_by c_least_by k_least_by).binds (ps := ["form"]) fun _ _ _ _ _ _ us hl => match us, hl with | [_], _ => rfl,
    f_must_be_few := f_must_be_few, d_must_be_few := _, F_must_be_few := fun_mk (st := s_must_be_few) l_must_be_few c_must_be_few k_must_be_few, m_must_be_few := PySem.W.mg_of X G a_must_be_few,
    b_must_be_few := (fun_mk (st := s_must_be_few) l_must_be_few c_must_be_few k_must_be_few).binds (ps := ["form"]) fun _ _ _ _ _ _ us hl => match us, hl with | [_], _ => rfl,
    f_least := f_least, d_least := _, F_least := fun_mk (st := s_least) l_least c_least k_least, m_least := PySem.W.mg_of X G a_least,
    b_least := (fun_mk (st := s_least) l_least c_least k_least).binds (ps := ["form"]) fun _ _ _ _ _ _ us hl => match us, hl with | [_], _ => rfl,
    f_key_of := f_key_of, d_key_of := _, F_key_of := fun_mk (st := s_key_of) l_key_of c_key_of k_key_of, m_key_of := PySem.W.mg_of X G a_key_of,
    b_key_of := (fun_mk (st := s_key_of) l_key_of c_key_of k_key_of).binds (ps := ["form"]) fun _ _ _ _ _ _ us hl => match us, hl with | [_], _ => rfl,
    f_ways_from := f_ways_from, d_ways_from := _, F_ways_from := fun_mk (st := s_ways_from) l_ways_from c_ways_from k_ways_from, m_ways_from := PySem.W.mg_of X G a_ways_from,
    b_ways_from := (fun_mk (st := s_ways_from) l_ways_from c_ways_from k_ways_from).binds (ps := ["form"]) fun _ _ _ _ _ _ us hl => match us, hl with | [_], _ => rfl,
    f_reach := f_reach, d_reach := _, F_reach := fun_mk (st := s_reach) l_reach c_reach k_reach, m_reach := PySem.W.mg_of X G a_reach,
    b_reach := (fun_mk (st := s_reach) l_reach c_reach k_reach).binds (ps := ["form"]) fun _ _ _ _ _ _ us hl => match us, hl with | [_], _ => rfl,
    f_determinant := f_determinant, d_determinant := _, F_determinant := fun_mk (st := s_determinant) l_determinant c_determinant k_determinant, m_determinant := PySem.W.mg_of X G a_determinant,
    b_determinant := (fun_mk (st := s_determinant) l_determinant c_determinant k_determinant).binds (ps := ["form"]) fun _ _ _ _ _ _ us hl => match us, hl with | [_], _ => rfl,
    f_step_of := f_step_of, d_step_of := _, F_step_of := fun_mk (st := s_step_of) l_step_of c_step_of k_step_of, m_step_of := PySem.W.mg_of X G a_step_of,
    b_step_of := (fun_mk (st := s_step_of) l_step_of c_step_of k_step_of).binds (ps := ["row"]) fun _ _ _ _ _ _ us hl => match us, hl with | [_], _ => rfl,
    f_kept := f_kept, d_kept := _, F_kept := fun_mk (st := s_kept) l_kept c_kept k_kept, m_kept := PySem.W.mg_of X G a_kept,
    b_kept := (fun_mk (st := s_kept) l_kept c_kept k_kept).binds (ps := ["form"]) fun _ _ _ _ _ _ us hl => match us, hl with | [_], _ => rfl,
    f__law_cell := f__law_cell, d__law_cell := _, F__law_cell := fun_mk (st := s__law_cell) l__law_cell c__law_cell k__law_cell, m__law_cell := PySem.W.mg_of X G a__law_cell,
    b__law_cell := (fun_mk (st := s__law_cell) l__law_cell c__law_cell k__law_cell).binds (ps := ["script", "k"]) fun _ _ _ _ _ _ us hl => match us, hl with | [_, _], _ => rfl,
    f__law_form := f__law_form, d__law_form := _, F__law_form := fun_mk (st := s__law_form) l__law_form c__law_form k__law_form, m__law_form := PySem.W.mg_of X G a__law_form,
    b__law_form := (fun_mk (st := s__law_form) l__law_form c__law_form k__law_form).binds (ps := ["script", "k", "most"]) fun _ _ _ _ _ _ us hl => match us, hl with | [_, _, _], _ => rfl,
    f__law_copy := f__law_copy, d__law_copy := _, F__law_copy := fun_mk (st := s__law_copy) l__law_copy c__law_copy k__law_copy, m__law_copy := PySem.W.mg_of X G a__law_copy,
    b__law_copy := (fun_mk (st := s__law_copy) l__law_copy c__law_copy k__law_copy).binds (ps := ["form"]) fun _ _ _ _ _ _ us hl => match us, hl with | [_], _ => rfl,
    f__law_renamed := f__law_renamed, d__law_renamed := _, F__law_renamed := fun_mk (st := s__law_renamed) l__law_renamed c__law_renamed k__law_renamed, m__law_renamed := PySem.W.mg_of X G a__law_renamed,
    b__law_renamed := (fun_mk (st := s__law_renamed) l__law_renamed c__law_renamed k__law_renamed).binds (ps := ["form", "names"]) fun _ _ _ _ _ _ us hl => match us, hl with | [_, _], _ => rfl,
    f__law_some_names := f__law_some_names, d__law_some_names := _, F__law_some_names := fun_mk (st := s__law_some_names) l__law_some_names c__law_some_names k__law_some_names, m__law_some_names := PySem.W.mg_of X G a__law_some_names,
    b__law_some_names := (fun_mk (st := s__law_some_names) l__law_some_names c__law_some_names k__law_some_names).binds (ps := ["script", "k", "count"]) fun _ _ _ _ _ _ us hl => match us, hl with | [_, _, _], _ => rfl,
    f__law_small := f__law_small, d__law_small := _, F__law_small := fun_mk (st := s__law_small) l__law_small c__law_small k__law_small, m__law_small := PySem.W.mg_of X G a__law_small,
    b__law_small := (fun_mk (st := s__law_small) l__law_small c__law_small k__law_small).binds (ps := ["script", "k"]) fun _ _ _ _ _ _ us hl => match us, hl with | [_, _], _ => rfl,
    f__law_told := f__law_told, d__law_told := _, F__law_told := fun_mk (st := s__law_told) l__law_told c__law_told k__law_told, m__law_told := PySem.W.mg_of X G a__law_told,
    b__law_told := (fun_mk (st := s__law_told) l__law_told c__law_told k__law_told).binds (ps := ["form"]) fun _ _ _ _ _ _ us hl => match us, hl with | [_], _ => rfl,
    f_law := _, d_law := _, F_law := fun_mk (st := s_law) l_law c_law k_law, m_law := PySem.W.mg_of X G a_law,
    b_law := (fun_mk (st := s_law) l_law c_law k_law).binds (ps := ["script"]) fun _ _ _ _ _ _ us hl => match us, hl with | [_], _ => rfl,
    t_MOST_BOXES := t_MOST_BOXES, m_MOST_BOXES := PySem.W.mg_of X G m_MOST_BOXES,
    t_MOST_ARROWS := t_MOST_ARROWS, m_MOST_ARROWS := PySem.W.mg_of X G m_MOST_ARROWS,
    t_MOST_NAMED := t_MOST_NAMED, m_MOST_NAMED := PySem.W.mg_of X G m_MOST_NAMED,
    t_MOST_FORMS := t_MOST_FORMS, m_MOST_FORMS := PySem.W.mg_of X G m_MOST_FORMS,
    c_TurnError := c_TurnError, g_TurnError := PySem.W.mg_of X G g_TurnError, x_TurnError := { g := PySem.W.mg_of X G g_TurnError, xn := xxn_TurnError, kp := xkp_TurnError, bs := xbs_TurnError, ty := xty_TurnError, ic := xic_TurnError, hg := xhg_TurnError, hk := xhk_TurnError, hd := xhd_TurnError, ha := xha_TurnError, hn := xhn_TurnError, ht := xht_TurnError, hm := xhm_TurnError, vs := xvs_TurnError },
    c_NoForm := c_NoForm, g_NoForm := PySem.W.mg_of X G g_NoForm, x_NoForm := { g := PySem.W.mg_of X G g_NoForm, xn := xxn_NoForm, kp := xkp_NoForm, bs := xbs_NoForm, ty := xty_NoForm, ic := xic_NoForm, hg := xhg_NoForm, hk := xhk_NoForm, hd := xhd_NoForm, ha := xha_NoForm, hn := xhn_NoForm, ht := xht_NoForm, hm := xhm_NoForm, vs := xvs_NoForm },
    c_NoBox := c_NoBox, g_NoBox := PySem.W.mg_of X G g_NoBox, x_NoBox := { g := PySem.W.mg_of X G g_NoBox, xn := xxn_NoBox, kp := xkp_NoBox, bs := xbs_NoBox, ty := xty_NoBox, ic := xic_NoBox, hg := xhg_NoBox, hk := xhk_NoBox, hd := xhd_NoBox, ha := xha_NoBox, hn := xhn_NoBox, ht := xht_NoBox, hm := xhm_NoBox, vs := xvs_NoBox },
    c_TooMany := c_TooMany, g_TooMany := PySem.W.mg_of X G g_TooMany, x_TooMany := { g := PySem.W.mg_of X G g_TooMany, xn := xxn_TooMany, kp := xkp_TooMany, bs := xbs_TooMany, ty := xty_TooMany, ic := xic_TooMany, hg := xhg_TooMany, hk := xhk_TooMany, hd := xhd_TooMany, ha := xha_TooMany, hn := xhn_TooMany, ht := xht_TooMany, hm := xhm_TooMany, vs := xvs_TooMany },
    u_TurnError_TurnError := u_TurnError_TurnError,
    u_TurnError_NoForm := u_TurnError_NoForm,
    u_TurnError_NoBox := u_TurnError_NoBox,
    u_TurnError_TooMany := u_TurnError_TooMany,
    u_NoForm_TurnError := u_NoForm_TurnError,
    u_NoForm_NoForm := u_NoForm_NoForm,
    u_NoForm_NoBox := u_NoForm_NoBox,
    u_NoForm_TooMany := u_NoForm_TooMany,
    u_NoBox_TurnError := u_NoBox_TurnError,
    u_NoBox_NoForm := u_NoBox_NoForm,
    u_NoBox_NoBox := u_NoBox_NoBox,
    u_NoBox_TooMany := u_NoBox_TooMany,
    u_TooMany_TurnError := u_TooMany_TurnError,
    u_TooMany_NoForm := u_TooMany_NoForm,
    u_TooMany_NoBox := u_TooMany_NoBox,
    u_TooMany_TooMany := u_TooMany_TooMany,
    b_len := PySem.W.mg_none_of X G b_len,
    b_range := PySem.W.mg_none_of X G b_range,
    b_abs := PySem.W.mg_none_of X G b_abs,
    b_min := PySem.W.mg_none_of X G b_min,
    b_tuple := PySem.W.mg_none_of X G b_tuple,
    b_sorted := PySem.W.mg_none_of X G b_sorted,
    b_list := PySem.W.mg_none_of X G b_list,
    b_zip := PySem.W.mg_none_of X G b_zip,
    b_max := PySem.W.mg_none_of X G b_max }
  exact ⟨PySem.W.fnOf "law" "law" (defArgs s_law) (defBody s_law) (defScope s_law) .none kV_law dc_law pm_law an_law cd_law ct_law, fun s v => .of_eq rfl, fun base _ _ => law_ok T⟩
end AT
open PySem PySem.W PyProof.Rows
set_option maxHeartbeats 0 in
theorem PySem.Challenge.cw_arrowturns_k11_whole_the_reach_is_shut_holds : PySem.Challenge.rw_arrowturns_k11_whole_the_reach_is_shut.Holds := by
  w_on; o_law; k_head; (case hw => w_witness2)
  k_fill
  refine L2.walk_of (l := PySem.Challenge.rw_arrowturns_k11_whole_the_reach_is_shut) (n := 63) (k := AT.LEVEL) (x := "script") (CX := fun _ => L2.CX0) (sp := fun w => AT.sp_law _) rfl (by decide) rfl ⟨rfl, by decide, by decide⟩ (fun w h Y => PySem.W.kIn_of Y) ?F (fun _ _ a ns hl _ hS => ⟨a, ns, rfl, hS, hl, fun _ => rfl⟩) (fun _ _ _ _ _ h => h)
  case F =>
    intro w mg fa h KX G hmg
    refine' AT.all_mk KX G hmg ?a_is_form ?l_is_form ?c_is_form ?k_is_form ?a_must_form ?l_must_form ?c_must_form ?k_must_form ?a_through ?l_through ?c_through ?k_through ?a_turned_by ?l_turned_by ?c_turned_by ?k_turned_by ?a_turned ?l_turned ?c_turned ?k_turned ?a_renamed_by ?l_renamed_by ?c_renamed_by ?k_renamed_by ?a_all_names ?l_all_names ?c_all_names ?k_all_names ?a_least_by ?l_least_by ?c_least_by ?k_least_by ?a_must_be_few ?l_must_be_few ?c_must_be_few ?k_must_be_few ?a_least ?l_least ?c_least ?k_least ?a_key_of ?l_key_of ?c_key_of ?k_key_of ?a_ways_from ?l_ways_from ?c_ways_from ?k_ways_from ?a_reach ?l_reach ?c_reach ?k_reach ?a_determinant ?l_determinant ?c_determinant ?k_determinant ?a_step_of ?l_step_of ?c_step_of ?k_step_of ?a_kept ?l_kept ?c_kept ?k_kept ?a__law_cell ?l__law_cell ?c__law_cell ?k__law_cell ?a__law_form ?l__law_form ?c__law_form ?k__law_form ?a__law_copy ?l__law_copy ?c__law_copy ?k__law_copy ?a__law_renamed ?l__law_renamed ?c__law_renamed ?k__law_renamed ?a__law_some_names ?l__law_some_names ?c__law_some_names ?k__law_some_names ?a__law_small ?l__law_small ?c__law_small ?k__law_small ?a__law_told ?l__law_told ?c__law_told ?k__law_told ?a_law ?l_law ?c_law ?k_law ?m_MOST_BOXES ?m_MOST_ARROWS ?m_MOST_NAMED ?m_MOST_FORMS ?g_TurnError ?xxn_TurnError ?xkp_TurnError ?xbs_TurnError ?xty_TurnError ?xic_TurnError ?xhg_TurnError ?xhk_TurnError ?xhd_TurnError ?xha_TurnError ?xhn_TurnError ?xht_TurnError ?xhm_TurnError ?xvs_TurnError ?g_NoForm ?xxn_NoForm ?xkp_NoForm ?xbs_NoForm ?xty_NoForm ?xic_NoForm ?xhg_NoForm ?xhk_NoForm ?xhd_NoForm ?xha_NoForm ?xhn_NoForm ?xht_NoForm ?xhm_NoForm ?xvs_NoForm ?g_NoBox ?xxn_NoBox ?xkp_NoBox ?xbs_NoBox ?xty_NoBox ?xic_NoBox ?xhg_NoBox ?xhk_NoBox ?xhd_NoBox ?xha_NoBox ?xhn_NoBox ?xht_NoBox ?xhm_NoBox ?xvs_NoBox ?g_TooMany ?xxn_TooMany ?xkp_TooMany ?xbs_TooMany ?xty_TooMany ?xic_TooMany ?xhg_TooMany ?xhk_TooMany ?xhd_TooMany ?xha_TooMany ?xhn_TooMany ?xht_TooMany ?xhm_TooMany ?xvs_TooMany ?u_TurnError_TurnError ?u_TurnError_NoForm ?u_TurnError_NoBox ?u_TurnError_TooMany ?u_NoForm_TurnError ?u_NoForm_NoForm ?u_NoForm_NoBox ?u_NoForm_TooMany ?u_NoBox_TurnError ?u_NoBox_NoForm ?u_NoBox_NoBox ?u_NoBox_TooMany ?u_TooMany_TurnError ?u_TooMany_NoForm ?u_TooMany_NoBox ?u_TooMany_TooMany ?b_len ?b_range ?b_abs ?b_min ?b_tuple ?b_sorted ?b_list ?b_zip ?b_max
    (case a_is_form => k_is)
    (case l_is_form => k_is)
    (case c_is_form => k_is)
    (case k_is_form => k_is)
    (case a_must_form => k_is)
    (case l_must_form => k_is)
    (case c_must_form => k_is)
    (case k_must_form => k_is)
    (case a_through => k_is)
    (case l_through => k_is)
    (case c_through => k_is)
    (case k_through => k_is)
    (case a_turned_by => k_is)
    (case l_turned_by => k_is)
    (case c_turned_by => k_is)
    (case k_turned_by => k_is)
    (case a_turned => k_is)
    (case l_turned => k_is)
    (case c_turned => k_is)
    (case k_turned => k_is)
    (case a_renamed_by => k_is)
    (case l_renamed_by => k_is)
    (case c_renamed_by => k_is)
    (case k_renamed_by => k_is)
    (case a_all_names => k_is)
    (case l_all_names => k_is)
    (case c_all_names => k_is)
    (case k_all_names => k_is)
    (case a_least_by => k_is)
    (case l_least_by => k_is)
    (case c_least_by => k_is)
    (case k_least_by => k_is)
    (case a_must_be_few => k_is)
    (case l_must_be_few => k_is)
    (case c_must_be_few => k_is)
    (case k_must_be_few => k_is)
    (case a_least => k_is)
    (case l_least => k_is)
    (case c_least => k_is)
    (case k_least => k_is)
    (case a_key_of => k_is)
    (case l_key_of => k_is)
    (case c_key_of => k_is)
    (case k_key_of => k_is)
    (case a_ways_from => k_is)
    (case l_ways_from => k_is)
    (case c_ways_from => k_is)
    (case k_ways_from => k_is)
    (case a_reach => k_is)
    (case l_reach => k_is)
    (case c_reach => k_is)
    (case k_reach => k_is)
    (case a_determinant => k_is)
    (case l_determinant => k_is)
    (case c_determinant => k_is)
    (case k_determinant => k_is)
    (case a_step_of => k_is)
    (case l_step_of => k_is)
    (case c_step_of => k_is)
    (case k_step_of => k_is)
    (case a_kept => k_is)
    (case l_kept => k_is)
    (case c_kept => k_is)
    (case k_kept => k_is)
    (case a__law_cell => k_is)
    (case l__law_cell => k_is)
    (case c__law_cell => k_is)
    (case k__law_cell => k_is)
    (case a__law_form => k_is)
    (case l__law_form => k_is)
    (case c__law_form => k_is)
    (case k__law_form => k_is)
    (case a__law_copy => k_is)
    (case l__law_copy => k_is)
    (case c__law_copy => k_is)
    (case k__law_copy => k_is)
    (case a__law_renamed => k_is)
    (case l__law_renamed => k_is)
    (case c__law_renamed => k_is)
    (case k__law_renamed => k_is)
    (case a__law_some_names => k_is)
    (case l__law_some_names => k_is)
    (case c__law_some_names => k_is)
    (case k__law_some_names => k_is)
    (case a__law_small => k_is)
    (case l__law_small => k_is)
    (case c__law_small => k_is)
    (case k__law_small => k_is)
    (case a__law_told => k_is)
    (case l__law_told => k_is)
    (case c__law_told => k_is)
    (case k__law_told => k_is)
    (case a_law => k_is)
    (case l_law => k_is)
    (case c_law => k_is)
    (case k_law => k_is)
    (case m_MOST_BOXES => k_is)
    (case m_MOST_ARROWS => k_is)
    (case m_MOST_NAMED => k_is)
    (case m_MOST_FORMS => k_is)
    (case g_TurnError => k_is)
    (case xxn_TurnError => k_exc)
    (case xkp_TurnError => k_is)
    (case xbs_TurnError => k_is)
    (case xty_TurnError => k_is)
    (case xic_TurnError => k_is)
    (case xhg_TurnError => k_is)
    (case xhk_TurnError => k_is)
    (case xhd_TurnError => k_is)
    (case xha_TurnError => k_is)
    (case xhn_TurnError => k_is)
    (case xht_TurnError => k_is)
    (case xhm_TurnError => k_is)
    (case xvs_TurnError => k_is)
    (case g_NoForm => k_is)
    (case xxn_NoForm => k_exc)
    (case xkp_NoForm => k_is)
    (case xbs_NoForm => k_is)
    (case xty_NoForm => k_is)
    (case xic_NoForm => k_is)
    (case xhg_NoForm => k_is)
    (case xhk_NoForm => k_is)
    (case xhd_NoForm => k_is)
    (case xha_NoForm => k_is)
    (case xhn_NoForm => k_is)
    (case xht_NoForm => k_is)
    (case xhm_NoForm => k_is)
    (case xvs_NoForm => k_is)
    (case g_NoBox => k_is)
    (case xxn_NoBox => k_exc)
    (case xkp_NoBox => k_is)
    (case xbs_NoBox => k_is)
    (case xty_NoBox => k_is)
    (case xic_NoBox => k_is)
    (case xhg_NoBox => k_is)
    (case xhk_NoBox => k_is)
    (case xhd_NoBox => k_is)
    (case xha_NoBox => k_is)
    (case xhn_NoBox => k_is)
    (case xht_NoBox => k_is)
    (case xhm_NoBox => k_is)
    (case xvs_NoBox => k_is)
    (case g_TooMany => k_is)
    (case xxn_TooMany => k_exc)
    (case xkp_TooMany => k_is)
    (case xbs_TooMany => k_is)
    (case xty_TooMany => k_is)
    (case xic_TooMany => k_is)
    (case xhg_TooMany => k_is)
    (case xhk_TooMany => k_is)
    (case xhd_TooMany => k_is)
    (case xha_TooMany => k_is)
    (case xhn_TooMany => k_is)
    (case xht_TooMany => k_is)
    (case xhm_TooMany => k_is)
    (case xvs_TooMany => k_is)
    (case u_TurnError_TurnError => k_is)
    (case u_TurnError_NoForm => k_is)
    (case u_TurnError_NoBox => k_is)
    (case u_TurnError_TooMany => k_is)
    (case u_NoForm_TurnError => k_is)
    (case u_NoForm_NoForm => k_is)
    (case u_NoForm_NoBox => k_is)
    (case u_NoForm_TooMany => k_is)
    (case u_NoBox_TurnError => k_is)
    (case u_NoBox_NoForm => k_is)
    (case u_NoBox_NoBox => k_is)
    (case u_NoBox_TooMany => k_is)
    (case u_TooMany_TurnError => k_is)
    (case u_TooMany_NoForm => k_is)
    (case u_TooMany_NoBox => k_is)
    (case u_TooMany_TooMany => k_is)
    (case b_len => k_is)
    (case b_range => k_is)
    (case b_abs => k_is)
    (case b_min => k_is)
    (case b_tuple => k_is)
    (case b_sorted => k_is)
    (case b_list => k_is)
    (case b_zip => k_is)
    (case b_max => k_is)

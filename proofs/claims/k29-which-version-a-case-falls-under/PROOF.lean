import PyProof.Rows.All
import Wide.All
import OpenK.AllK
import Wide.FinOn
import PySem.Challenge.RW_amendwarrant_k29_which_version_a_case_fa
import HandS.ForMost
import HandS.TupAny
import HandS.Deep
import HandS.IsInst
import HandS.Wide
import KE.DataCmp
import KE.SortData
import HandS.More
import HandS.Flow
import HandS.TupLe
import HandS.Small
import HandS.Style
import HandS.Conv
import HandS.Codes
import HandS.Iter
import HandS.Dict
import HandS.Zip
import KE.GoesMore
import KE.GoesZip
import KE.KTurns
import HandS.SetFor
import HandS.Strs
import HandS.SetKeys
import HandS.ListItems
import HandS.DictTup
import KE.KEqNest
import KE.DataMinMax
set_option Elab.async false
set_option linter.all false
set_option maxRecDepth 100000
/-! DL: a layer of plain data over the hand layer. -/
namespace DL
open PySem PySem.Spec PyProof.Rows L2
abbrev SS := L2.St
abbrev D := PyData
/-- what a slot holds: nothing known, a value for good, a list or dict that this slot alone holds, one that is being walked -/
inductive Sl where
  | em | fz (d : D) | ow (d : D) | lk (d : D)
/-- what an expression gives: a value for good, a new list or dict, what slot i holds -/
inductive Rs where
  | fz (d : D) | ow (d : D) | nm (i : Nat)
inductive R (α : Type) where
  | ok (a : α) (ρ : List Sl) | bad
abbrev M (α : Type) := List Sl → R α
def bd {α β : Type} (m : M α) (k : α → M β) : M β := fun ρ => match m ρ with
  | .ok a ρ' => k a ρ'
  | .bad => .bad
def pr {α : Type} (a : α) : M α := fun ρ => .ok a ρ
def opt {α : Type} (o : Option α) : M α := fun ρ => match o with
  | some a => .ok a ρ
  | none => .bad
inductive SR where
  | nx (ρ : List Sl) | rt (r : Rs) (ρ : List Sl) | bk (ρ : List Sl) | ct (ρ : List Sl) | bad
abbrev DS := List Sl → SR
/-! ### values -/
def kD : Key → D
  | .inl i => .int i
  | .inr x => .str x
mutual
inductive Rp (K : PySem.W.Frag) (F : Hp) : V → D → Prop
  | non : Rp K F .non .none
  | bl (b : Bool) : Rp K F (.bl b) (.bool b)
  | int (i : Int) : Rp K F (.int i) (.int i)
  | str (x : Str) : Rp K F (.str x) (.str x)
  | lst {a : Addr} {xs : List V} {ds : List D} : Rd F a (.lst xs) → RpA K F xs ds → Rp K F (.ref a) (.list ds)
  | tup {a : Addr} {xs : List V} {ds : List D} : SqT K F a xs → RpA K F xs ds → Rp K F (.ref a) (.tuple ds)
  | dct {a : Addr} {kvs : List (Key × V)} {ds : List (D × D)} : Rd F a (.dK kvs) → RpK K F kvs ds → Rp K F (.ref a) (.dict ds)
inductive RpA (K : PySem.W.Frag) (F : Hp) : List V → List D → Prop
  | nil : RpA K F [] []
  | cons {v : V} {vs : List V} {d : D} {ds : List D} : Rp K F v d → RpA K F vs ds → RpA K F (v :: vs) (d :: ds)
inductive RpK (K : PySem.W.Frag) (F : Hp) : List (Key × V) → List (D × D) → Prop
  | nil : RpK K F [] []
  | cons {k : Key} {v : V} {vs : List (Key × V)} {d : D} {ds : List (D × D)} : Rp K F v d → RpK K F vs ds → RpK K F ((k, v) :: vs) ((kD k, d) :: ds)
end
theorem rd_mono {F F' : Hp} {a : Addr} {u : HO} (e : Same F F') (h : Rd F a u) : Rd F' a u := by
  rcases h with h | ⟨o, h⟩
  · exact .inl (e _ _ h)
  · exact .inr ⟨o, e _ _ h⟩
theorem sqT_mono {K : PySem.W.Frag} {F F' : Hp} {a : Addr} {xs : List V} (e : Same F F') (h : SqT K F a xs) : SqT K F' a xs := by
  rcases h with (h | ⟨o, h⟩) | h
  · exact .inl (.inl (e _ _ h))
  · exact .inl (.inr ⟨o, e _ _ h⟩)
  · exact .inr h
mutual
theorem Rp.mono {K : PySem.W.Frag} {F F' : Hp} (e : Same F F') : ∀ {v : V} {d : D}, Rp K F v d → Rp K F' v d
  | _, _, .non => .non
  | _, _, .bl b => .bl b
  | _, _, .int i => .int i
  | _, _, .str x => .str x
  | _, _, .lst h t => .lst (rd_mono e h) (RpA.mono e t)
  | _, _, .tup h t => .tup (sqT_mono e h) (RpA.mono e t)
  | _, _, .dct h t => .dct (rd_mono e h) (RpK.mono e t)
theorem RpA.mono {K : PySem.W.Frag} {F F' : Hp} (e : Same F F') : ∀ {v : List V} {d : List D}, RpA K F v d → RpA K F' v d
  | _, _, .nil => .nil
  | _, _, .cons h t => .cons (Rp.mono e h) (RpA.mono e t)
theorem RpK.mono {K : PySem.W.Frag} {F F' : Hp} (e : Same F F') : ∀ {v : List (Key × V)} {d : List (D × D)}, RpK K F v d → RpK K F' v d
  | _, _, .nil => .nil
  | _, _, .cons h t => .cons (Rp.mono e h) (RpK.mono e t)
end
section
variable {K : PySem.W.Frag} {F F' H H' : Hp}
theorem RpA.length : ∀ {vs : List V} {ds : List D}, RpA K F vs ds → vs.length = ds.length
  | _, _, .nil => rfl
  | _, _, .cons _ t => by rw [List.length_cons, List.length_cons, t.length]
theorem RpA.get : ∀ {vs : List V} {ds : List D} {i : Nat} {v : V} {d : D}, RpA K F vs ds → vs[i]? = some v → ds[i]? = some d → Rp K F v d
  | _, _, _, _, _, .nil, h, _ => by simp at h
  | _, _, 0, _, _, .cons h _, e, e' => by
    simp at e e'
    rw [← e, ← e']; exact h
  | _, _, i + 1, _, _, .cons _ t, e, e' => t.get (i := i) (by simpa using e) (by simpa using e')
theorem RpA.app : ∀ {vs vs' : List V} {ds ds' : List D}, RpA K F vs ds → RpA K F vs' ds' → RpA K F (vs ++ vs') (ds ++ ds')
  | _, _, _, _, .nil, h => h
  | _, _, _, _, .cons h t, h' => .cons h (t.app h')
theorem RpA.one {v : V} {d : D} (h : Rp K F v d) : RpA K F [v] [d] := .cons h .nil
theorem RpA.drop : ∀ {vs : List V} {ds : List D} (n : Nat), RpA K F vs ds → RpA K F (vs.drop n) (ds.drop n)
  | _, _, 0, h => h
  | _, _, _ + 1, .nil => .nil
  | _, _, n + 1, .cons _ t => t.drop n
theorem RpA.take : ∀ {vs : List V} {ds : List D} (n : Nat), RpA K F vs ds → RpA K F (vs.take n) (ds.take n)
  | _, _, 0, _ => .nil
  | _, _, _ + 1, .nil => .nil
  | _, _, n + 1, .cons h t => .cons h (t.take n)
theorem RpA.set {i : Nat} {v : V} {d : D} (h : Rp K F v d) : ∀ {vs : List V} {ds : List D} (i : Nat), RpA K F vs ds → RpA K F (vs.set i v) (ds.set i d)
  | _, _, _, .nil => .nil
  | _, _, 0, .cons _ t => .cons h t
  | _, _, i + 1, .cons q t => .cons q (RpA.set (i := i) h i t)
theorem RpA.ints : ∀ {vs : List V} {ns : List Int}, RpA K F vs (ns.map .int) → vs = ns.map .int
  | _, [], h => by cases h; rfl
  | _, n :: ns, h => by
    cases h with
    | cons h t => cases h; rw [List.map_cons, t.ints]
theorem RpA.of_ints : ∀ (ns : List Int), RpA K F (ns.map .int) (ns.map .int)
  | [] => .nil
  | n :: ns => .cons (.int n) (RpA.of_ints ns)
theorem RpK.length : ∀ {vs : List (Key × V)} {ds : List (D × D)}, RpK K F vs ds → vs.length = ds.length
  | _, _, .nil => rfl
  | _, _, .cons _ t => by rw [List.length_cons, List.length_cons, t.length]
/-- the list or dict at a, as it stands now -/
def Ob (K : PySem.W.Frag) (F H : Hp) (a : Addr) : D → Prop
  | .list ds => ∃ vs, H a = some (.lst vs) ∧ RpA K F vs ds
  | .dict ds => ∃ kvs, H a = some (.dK kvs) ∧ RpK K F kvs ds
  | _ => False
theorem Ob.some {a : Addr} {d : D} (h : Ob K F H a d) : ∃ o, H a = some o := by
  cases d with
  | list ds => obtain ⟨vs, e, _⟩ := h; exact ⟨_, e⟩
  | dict ds => obtain ⟨vs, e, _⟩ := h; exact ⟨_, e⟩
  | _ => exact h.elim
theorem Ob.ne {a : Addr} {d : D} (h : Ob K F H a d) : H a ≠ none := by
  obtain ⟨o, e⟩ := h.some
  rw [e]; exact fun z => nomatch z
theorem Ob.mono {a : Addr} {d : D} (h : Ob K F H a d) (e : Same F F') (eh : H' a = H a) : Ob K F' H' a d := by
  cases d with
  | list ds => obtain ⟨vs, q, r⟩ := h; exact ⟨vs, eh.trans q, r.mono e⟩
  | dict ds => obtain ⟨vs, q, r⟩ := h; exact ⟨vs, eh.trans q, r.mono e⟩
  | _ => exact h.elim
/-- frozen: the object is among the frozen ones -/
theorem Ob.rp {a : Addr} {d : D} (h : Ob K F H a d) (e : Same F F') (ef : F' a = H a) : Rp K F' (.ref a) d := by
  cases d with
  | list ds => obtain ⟨vs, q, r⟩ := h; exact .lst (.inl (ef.trans q)) (r.mono e)
  | dict ds => obtain ⟨vs, q, r⟩ := h; exact .dct (.inl (ef.trans q)) (r.mono e)
  | _ => exact h.elim
/-! ### the state -/
def SltR (K : PySem.W.Frag) (F H : Hp) (ov : Option (Option V)) : Sl → Prop
  | .em => True
  | .fz d => ∃ v, ov = some (some v) ∧ Rp K F v d
  | .ow d => ∃ a, ov = some (some (.ref a)) ∧ F a = none ∧ Ob K F H a d
  | .lk d => ∃ a, ov = some (some (.ref a)) ∧ F a = none ∧ Ob K F H a d
def OwAt (σ : SS) (ρ : List Sl) (i : Nat) (a : Addr) : Prop := σ[i]? = some (some (.ref a)) ∧ ∃ d, ρ[i]? = some (.ow d)
def LkAt (σ : SS) (ρ : List Sl) (i : Nat) (a : Addr) : Prop := σ[i]? = some (some (.ref a)) ∧ ∃ d, ρ[i]? = some (.lk d)
def HdAt (σ : SS) (ρ : List Sl) (i : Nat) (a : Addr) : Prop := OwAt σ ρ i a ∨ LkAt σ ρ i a
structure Sta (K : PySem.W.Frag) (F H : Hp) (σ : SS) (ρ : List Sl) : Prop where
  le : Same F H
  len : σ.length = ρ.length
  sl : ∀ (i : Nat) (s : Sl), ρ[i]? = some s → SltR K F H σ[i]? s
  dj : ∀ (i j : Nat) (a : Addr), HdAt σ ρ i a → HdAt σ ρ j a → i = j
structure Ext (K : PySem.W.Frag) (F H : Hp) (σ : SS) (ρ : List Sl) (F' H' : Hp) (σ' : SS) (ρ' : List Sl) : Prop where
  st : Sta K F' H' σ' ρ'
  fr : Same F F'
  kp : ∀ b o, H b = some o → (∀ i, ¬ OwAt σ ρ i b) → H' b = some o
  nf : ∀ b, H b ≠ none → (∀ i, ¬ HdAt σ ρ i b) → F b = none → F' b = none
  gr : ∀ b, H b ≠ none → H' b ≠ none
  ow : ∀ i b, OwAt σ' ρ' i b → OwAt σ ρ i b ∨ H b = none
  lk : ∀ i b, LkAt σ' ρ' i b → HdAt σ ρ i b ∨ H b = none
section
variable {σ σ' σ2 : SS} {ρ ρ' ρ2 : List Sl} {F2 H2 : Hp}
theorem Sta.held (h : Sta K F H σ ρ) {i : Nat} {a : Addr} (e : HdAt σ ρ i a) : F a = none ∧ ∃ d, Ob K F H a d := by
  rcases e with ⟨e, d, q⟩ | ⟨e, d, q⟩
  · obtain ⟨b, e1, e2, e3⟩ := h.sl i _ q
    rw [e] at e1; cases e1
    exact ⟨e2, d, e3⟩
  · obtain ⟨b, e1, e2, e3⟩ := h.sl i _ q
    rw [e] at e1; cases e1
    exact ⟨e2, d, e3⟩
theorem Ext.refl (h : Sta K F H σ ρ) : Ext K F H σ ρ F H σ ρ :=
  ⟨h, Same.refl _, fun _ _ e _ => e, fun _ _ _ e => e, fun _ e => e, fun _ _ e => .inl e, fun _ _ e => .inl (.inr e)⟩
theorem Ext.hd (x : Ext K F H σ ρ F' H' σ' ρ') {i : Nat} {b : Addr} (h : HdAt σ' ρ' i b) : HdAt σ ρ i b ∨ H b = none := by
  rcases h with h | h
  · exact (x.ow i b h).imp .inl id
  · exact x.lk i b h
theorem Ext.back (x : Ext K F H σ ρ F' H' σ' ρ') {b : Addr} (h : H' b = none) : H b = none := by
  cases e : H b with
  | none => rfl
  | some o => exact absurd h (x.gr b (by rw [e]; exact fun z => nomatch z))
theorem Ext.trans (x : Ext K F H σ ρ F' H' σ' ρ') (y : Ext K F' H' σ' ρ' F2 H2 σ2 ρ2) : Ext K F H σ ρ F2 H2 σ2 ρ2 where
  st := y.st
  fr := x.fr.trans y.fr
  kp := fun b o e n => y.kp b o (x.kp b o e n) fun i q => by
    rcases x.ow i b q with z | z
    · exact n i z
    · rw [z] at e; cases e
  nf := fun b e n q => y.nf b (x.gr b e) (fun i z => by
    rcases x.hd z with z | z
    · exact n i z
    · exact e z) (x.nf b e n q)
  gr := fun b e => y.gr b (x.gr b e)
  ow := fun i b q => by
    rcases y.ow i b q with z | z
    · exact x.ow i b z
    · exact .inr (x.back z)
  lk := fun i b q => by
    rcases y.lk i b q with z | z
    · exact x.hd z
    · exact .inr (x.back z)
/-! ### results -/
def RsR (K : PySem.W.Frag) (H₀ F H : Hp) (σ : SS) (ρ : List Sl) (v : V) : Rs → Prop
  | .fz d => Rp K F v d
  | .ow d => ∃ a, v = .ref a ∧ H₀ a = none ∧ F a = none ∧ Ob K F H a d ∧ ∀ i, ¬ HdAt σ ρ i a
  | .nm i => σ[i]? = some (some v)
theorem RsR.ext {H₀ : Hp} {v : V} {r : Rs} (h : RsR K H₀ F H σ ρ v r) (x : Ext K F H σ ρ F' H' σ ρ') : RsR K H₀ F' H' σ ρ' v r := by
  cases r with
  | fz d => exact Rp.mono x.fr h
  | nm i => exact h
  | ow d =>
    obtain ⟨a, e, h0, hf, ho, hd⟩ := h
    obtain ⟨o, eo⟩ := ho.some
    have ek := x.kp a o eo fun i q => hd i (.inl q)
    refine ⟨a, e, h0, x.nf a ho.ne hd hf, ho.mono x.fr (ek.trans eo.symm), fun i q => ?_⟩
    rcases x.hd q with z | z
    · exact hd i z
    · exact ho.ne z
theorem RsR.base {H₀ H₁ : Hp} {v : V} {r : Rs} (h : RsR K H₁ F H σ ρ v r) (b : ∀ a, H₁ a = none → H₀ a = none) : RsR K H₀ F H σ ρ v r := by
  cases r with
  | fz d => exact h
  | nm i => exact h
  | ow d =>
    obtain ⟨a, e, h0, q⟩ := h
    exact ⟨a, e, b a h0, q⟩
/-! ### reading and freezing what a result is -/
def look (r : Rs) : M D := fun ρ => match r with
  | .fz d => .ok d ρ
  | .ow d => .ok d ρ
  | .nm i => match ρ[i]? with
    | some (.fz d) => .ok d ρ
    | some (.ow d) => .ok d ρ
    | some (.lk d) => .ok d ρ
    | _ => .bad
def frz (r : Rs) : M D := fun ρ => match r with
  | .fz d => .ok d ρ
  | .ow d => .ok d ρ
  | .nm i => match ρ[i]? with
    | some (.fz d) => .ok d ρ
    | some (.ow d) => .ok d (ρ.set i (.fz d))
    | some (.lk d) => .ok d (ρ.set i (.fz d))
    | _ => .bad
/-- v reads as d now -/
def Vw (K : PySem.W.Frag) (F H : Hp) (v : V) (d : D) : Prop := Rp K F v d ∨ ∃ a, v = .ref a ∧ Ob K F H a d
theorem look_ok {H₀ : Hp} {v : V} {r : Rs} {d : D} (s : Sta K F H σ ρ) (h : RsR K H₀ F H σ ρ v r) (e : look r ρ = .ok d ρ') : ρ' = ρ ∧ Vw K F H v d := by
  cases r with
  | fz d' => cases e; exact ⟨rfl, .inl h⟩
  | ow d' => obtain ⟨a, e1, _, _, ho, _⟩ := h; cases e; exact ⟨rfl, .inr ⟨a, e1, ho⟩⟩
  | nm i =>
    have h : σ[i]? = some (some v) := h
    unfold look at e
    simp only at e
    cases q : ρ[i]? with
    | none => rw [q] at e; cases e
    | some sl =>
      rw [q] at e
      have z := s.sl i sl q
      cases sl with
      | em => cases e
      | fz d' =>
        cases e
        obtain ⟨w, e1, e2⟩ := z
        rw [h] at e1; cases e1
        exact ⟨rfl, .inl e2⟩
      | ow d' =>
        cases e
        obtain ⟨a, e1, e2, e3⟩ := z
        rw [h] at e1; cases e1
        exact ⟨rfl, .inr ⟨a, rfl, e3⟩⟩
      | lk d' =>
        cases e
        obtain ⟨a, e1, e2, e3⟩ := z
        rw [h] at e1; cases e1
        exact ⟨rfl, .inr ⟨a, rfl, e3⟩⟩
theorem same_upd {H : Hp} {p : Addr} {o : HO} (h : H p = none) : Same H (upd H p o) := fun b x e => by
  rw [upd_ne (ne_of_none e h)]
  exact e
theorem same_upd_le {F H : Hp} {p : Addr} {o : HO} (s : Same F H) (e : H p = some o) : Same (upd F p o) H := fun b x q => by
  by_cases hb : b = p
  · subst hb; rw [upd_same] at q; cases q; exact e
  · rw [upd_ne hb] at q; exact s b x q
/-- one held slot is frozen -/
theorem Ext.freeze {F₀ H₀ : Hp} {ρ₀ : List Sl} {i : Nat} {a : Addr} {d : D} {s : Sl} (x : Ext K F₀ H₀ σ' ρ₀ F H σ ρ) (hσ : σ[i]? = some (some (.ref a))) (hρ : ρ[i]? = some s) (hs : s = .ow d ∨ s = .lk d) :
    ∃ F', Ext K F₀ H₀ σ' ρ₀ F' H σ (ρ.set i (.fz d)) ∧ Rp K F' (.ref a) d := by
  have hd : HdAt σ ρ i a := by
    rcases hs with e | e
    · exact .inl ⟨hσ, d, by rw [hρ, e]⟩
    · exact .inr ⟨hσ, d, by rw [hρ, e]⟩
  obtain ⟨hf, ho⟩ : F a = none ∧ Ob K F H a d := by
    have z := x.st.sl i s hρ
    rcases hs with e | e <;> subst e <;> obtain ⟨b, e1, e2, e3⟩ := z <;> rw [hσ] at e1 <;> cases e1 <;> exact ⟨e2, e3⟩
  obtain ⟨o, eo⟩ := ho.some
  have sm : Same F (upd F a o) := same_upd hf
  have hi : i < ρ.length := by
    rcases Nat.lt_or_ge i ρ.length with z | z
    · exact z
    · rw [List.getElem?_eq_none z] at hρ; cases hρ
  have rp : Rp K (upd F a o) (.ref a) d := ho.rp sm (by rw [upd_same, eo])
  have back : ∀ j b, HdAt σ (ρ.set i (.fz d)) j b → HdAt σ ρ j b ∧ j ≠ i := fun j b q => by
    rcases q with ⟨e, d', q⟩ | ⟨e, d', q⟩
    · by_cases hj : i = j
      · subst hj; rw [List.getElem?_set_self hi] at q; cases q
      · rw [List.getElem?_set_ne hj] at q; exact ⟨.inl ⟨e, d', q⟩, fun z => hj z.symm⟩
    · by_cases hj : i = j
      · subst hj; rw [List.getElem?_set_self hi] at q; cases q
      · rw [List.getElem?_set_ne hj] at q; exact ⟨.inr ⟨e, d', q⟩, fun z => hj z.symm⟩
  have backO : ∀ j b, OwAt σ (ρ.set i (.fz d)) j b → OwAt σ ρ j b := fun j b ⟨e, d', q⟩ => by
    by_cases hj : i = j
    · subst hj; rw [List.getElem?_set_self hi] at q; cases q
    · rw [List.getElem?_set_ne hj] at q; exact ⟨e, d', q⟩
  have backL : ∀ j b, LkAt σ (ρ.set i (.fz d)) j b → LkAt σ ρ j b := fun j b ⟨e, d', q⟩ => by
    by_cases hj : i = j
    · subst hj; rw [List.getElem?_set_self hi] at q; cases q
    · rw [List.getElem?_set_ne hj] at q; exact ⟨e, d', q⟩
  refine ⟨upd F a o, ⟨⟨same_upd_le x.st.le eo, by rw [List.length_set]; exact x.st.len, fun j sl q => ?_, fun j k b h1 h2 => x.st.dj j k b (back j b h1).1 (back k b h2).1⟩, x.fr.trans sm, x.kp, fun b e n q => ?_, x.gr, fun j b q => x.ow j b (backO j b q), fun j b q => x.lk j b (backL j b q)⟩, rp⟩
  · by_cases hj : i = j
    · subst hj
      rw [List.getElem?_set_self hi] at q; cases q
      exact ⟨_, hσ, rp⟩
    · have q' := q
      rw [List.getElem?_set_ne hj] at q
      have z := x.st.sl j sl q
      cases sl with
      | em => trivial
      | fz d' => obtain ⟨w, e1, e2⟩ := z; exact ⟨w, e1, e2.mono sm⟩
      | ow d' =>
        obtain ⟨b, e1, e2, e3⟩ := z
        have hb : b ≠ a := fun z => by
          subst z
          exact hj (x.st.dj i j _ hd (.inl ⟨e1, d', q⟩))
        exact ⟨b, e1, by rw [upd_ne hb]; exact e2, e3.mono sm rfl⟩
      | lk d' =>
        obtain ⟨b, e1, e2, e3⟩ := z
        have hb : b ≠ a := fun z => by
          subst z
          exact hj (x.st.dj i j _ hd (.inr ⟨e1, d', q⟩))
        exact ⟨b, e1, by rw [upd_ne hb]; exact e2, e3.mono sm rfl⟩
  · have z := x.nf b e n q
    by_cases hb : b = a
    · subst hb
      rcases x.hd hd with y | y
      · exact absurd y (n i)
      · exact absurd y e
    · rw [upd_ne hb]; exact z
/-- a new object is frozen -/
theorem Ext.freezeNew {F₀ H₀ : Hp} {ρ₀ : List Sl} {a : Addr} {d : D} (x : Ext K F₀ H₀ σ' ρ₀ F H σ ρ) (h0 : H₀ a = none) (hf : F a = none) (ho : Ob K F H a d) (hn : ∀ i, ¬ HdAt σ ρ i a) :
    ∃ F', Ext K F₀ H₀ σ' ρ₀ F' H σ ρ ∧ Rp K F' (.ref a) d ∧ Same F F' ∧ ∀ b, b ≠ a → F' b = F b := by
  obtain ⟨o, eo⟩ := ho.some
  have sm : Same F (upd F a o) := same_upd hf
  have rp : Rp K (upd F a o) (.ref a) d := ho.rp sm (by rw [upd_same, eo])
  refine ⟨upd F a o, ⟨⟨same_upd_le x.st.le eo, x.st.len, fun j sl q => ?_, x.st.dj⟩, x.fr.trans sm, x.kp, fun b e n q => ?_, x.gr, x.ow, x.lk⟩, rp, sm, fun b hb => upd_ne hb⟩
  · have z := x.st.sl j sl q
    cases sl with
    | em => trivial
    | fz d' => obtain ⟨w, e1, e2⟩ := z; exact ⟨w, e1, e2.mono sm⟩
    | ow d' =>
      obtain ⟨b, e1, e2, e3⟩ := z
      have hb : b ≠ a := fun z => by subst z; exact hn j (.inl ⟨e1, d', q⟩)
      exact ⟨b, e1, by rw [upd_ne hb]; exact e2, e3.mono sm rfl⟩
    | lk d' =>
      obtain ⟨b, e1, e2, e3⟩ := z
      have hb : b ≠ a := fun z => by subst z; exact hn j (.inr ⟨e1, d', q⟩)
      exact ⟨b, e1, by rw [upd_ne hb]; exact e2, e3.mono sm rfl⟩
  · have z := x.nf b e n q
    by_cases hb : b = a
    · subst hb; exact absurd h0 e
    · rw [upd_ne hb]; exact z
theorem frz_ok {F₀ H₀ : Hp} {ρ₀ : List Sl} {v : V} {r : Rs} {d : D} (x : Ext K F₀ H₀ σ' ρ₀ F H σ ρ) (h : RsR K H₀ F H σ ρ v r) (e : frz r ρ = .ok d ρ') :
    ∃ F', Ext K F₀ H₀ σ' ρ₀ F' H σ ρ' ∧ Rp K F' v d := by
  cases r with
  | fz d' => cases e; exact ⟨F, x, h⟩
  | ow d' =>
    obtain ⟨a, e1, h0, hf, ho, hn⟩ := h
    cases e
    subst e1
    obtain ⟨F', x', rp, _⟩ := x.freezeNew h0 hf ho hn
    exact ⟨F', x', rp⟩
  | nm i =>
    have h : σ[i]? = some (some v) := h
    unfold frz at e
    simp only at e
    cases q : ρ[i]? with
    | none => rw [q] at e; cases e
    | some sl =>
      rw [q] at e
      have z := x.st.sl i sl q
      cases sl with
      | em => cases e
      | fz d' =>
        cases e
        obtain ⟨w, e1, e2⟩ := z
        rw [h] at e1; cases e1
        exact ⟨F, x, e2⟩
      | ow d' =>
        cases e
        obtain ⟨a, e1, e2, e3⟩ := z
        rw [h] at e1; cases e1
        exact x.freeze h q (.inl rfl)
      | lk d' =>
        cases e
        obtain ⟨a, e1, e2, e3⟩ := z
        rw [h] at e1; cases e1
        exact x.freeze h q (.inr rfl)
end
end
end DL
namespace DL
open PySem PySem.Spec PyProof.Rows L2
theorem peWeak {X : Cx} {e : Expr} {t t' : TE} (h : PE X e t) (w : ∀ σ H Q, t' σ H Q → t σ H Q) : PE X e t' :=
  ⟨fun pins s σ H Q I q => h.run pins s σ H Q I (w σ H Q q)⟩
theorem ptWeak {X : Cx} {e : Expr} {t t' : TT} (h : PT X e t) (w : ∀ σ H Q, t' σ H Q → t σ H Q) : PT X e t' :=
  ⟨fun pins s σ H Q I q => h.run pins s σ H Q I (w σ H Q q)⟩
theorem psWeak {X : Cx} {e : Stmt} {t t' : TS} (h : PS X e t) (w : ∀ D σ H, t' D σ H → t D σ H) : PS X e t' :=
  ⟨fun pins s σ H D I q => h.run pins s σ H D I (w D σ H q)⟩
theorem pssWeak {X : Cx} {e : List Stmt} {t t' : TS} (h : PSs X e t) (w : ∀ D σ H, t' D σ H → t D σ H) : PSs X e t' :=
  ⟨fun pins s σ H D I q => h.run pins s σ H D I (w D σ H q)⟩
theorem paWeak {X : Cx} {e : List Expr} {t t' : TA} (h : PA X e t) (w : ∀ σ H Q, t' σ H Q → t σ H Q) : PA X e t' :=
  ⟨fun pos pins s σ H Q I q => h.run pos pins s σ H Q I (w σ H Q q)⟩
/-! ### readings by a function of slots -/
def tSem (K : PySem.W.Frag) (f : M Rs) : TE := fun σ H Q => ∃ F ρ r ρ', Sta K F H σ ρ ∧ f ρ = .ok r ρ' ∧ ∀ F' H' v, Ext K F H σ ρ F' H' σ ρ' → RsR K H F' H' σ ρ' v r → Q v H'
def tSemT (K : PySem.W.Frag) (f : M Bool) : TT := fun σ H Q => ∃ F ρ r ρ', Sta K F H σ ρ ∧ f ρ = .ok r ρ' ∧ ∀ F' H', Ext K F H σ ρ F' H' σ ρ' → Q r H'
/-- several results, the new ones apart -/
structure RsA (K : PySem.W.Frag) (H₀ F H : Hp) (σ : SS) (ρ : List Sl) (vs : List V) (rs : List Rs) : Prop where
  len : vs.length = rs.length
  at_ : ∀ (i : Nat) (v : V) (r : Rs), vs[i]? = some v → rs[i]? = some r → RsR K H₀ F H σ ρ v r
  dj : ∀ (i j : Nat) (a : Addr) (d e : D), vs[i]? = some (.ref a) → rs[i]? = some (.ow d) → vs[j]? = some (.ref a) → rs[j]? = some (.ow e) → i = j
def tSemA (K : PySem.W.Frag) (f : M (List Rs)) : TA := fun σ H Q => ∃ F ρ r ρ', Sta K F H σ ρ ∧ f ρ = .ok r ρ' ∧ ∀ F' H' v, Ext K F H σ ρ F' H' σ ρ' → RsA K H F' H' σ ρ' v r → Q v H'
theorem bd_ok {α β : Type} {m : M α} {k : α → M β} {ρ ρ2 : List Sl} {b : β} (h : bd m k ρ = .ok b ρ2) : ∃ a ρ1, m ρ = .ok a ρ1 ∧ k a ρ1 = .ok b ρ2 := by
  unfold bd at h
  cases e : m ρ with
  | ok a ρ1 => rw [e] at h; exact ⟨a, ρ1, rfl, h⟩
  | bad => rw [e] at h; cases h
theorem opt_ok {α : Type} {o : Option α} {ρ ρ' : List Sl} {a : α} (h : opt o ρ = .ok a ρ') : o = some a ∧ ρ' = ρ := by
  unfold opt at h
  cases o with
  | none => cases h
  | some b => cases h; exact ⟨rfl, rfl⟩
theorem pr_ok {α : Type} {a b : α} {ρ ρ' : List Sl} (h : pr a ρ = .ok b ρ') : b = a ∧ ρ' = ρ := by
  unfold pr at h; cases h; exact ⟨rfl, rfl⟩
section
variable {K : PySem.W.Frag} {F H F' H' : Hp} {σ : SS} {ρ ρ' : List Sl}
/-! ### what a built-in may do: the heap grows -/
structure Grow (F H F' H' : Hp) : Prop where
  fr : Same F F'
  le : Same F' H'
  kp : Same H H'
  nf : ∀ b, H b ≠ none → F b = none → F' b = none
theorem Grow.refl (h : Same F H) : Grow F H F H := ⟨Same.refl _, h, Same.refl _, fun _ _ e => e⟩
theorem Grow.trans {F2 H2 : Hp} (a : Grow F H F' H') (b : Grow F' H' F2 H2) : Grow F H F2 H2 := ⟨a.fr.trans b.fr, b.le, a.kp.trans b.kp, fun c e n => b.nf c (fun z => by
  cases q : H c with
  | none => exact e q
  | some o => rw [a.kp c o q] at z; cases z) (a.nf c e n)⟩
theorem Sta.grow (s : Sta K F H σ ρ) (g : Grow F H F' H') : Ext K F H σ ρ F' H' σ ρ := by
  refine ⟨⟨g.le, s.len, fun i sl q => ?_, s.dj⟩, g.fr, fun b o e _ => g.kp b o e, fun b e _ n => g.nf b e n, fun b e => ?_, fun i b q => .inl q, fun i b q => .inl (.inr q)⟩
  · have z := s.sl i sl q
    cases sl with
    | em => trivial
    | fz d => obtain ⟨v, e, r⟩ := z; exact ⟨v, e, r.mono g.fr⟩
    | ow d =>
      obtain ⟨a, e, n, o⟩ := z
      obtain ⟨ob, eo⟩ := o.some
      exact ⟨a, e, g.nf a o.ne n, o.mono g.fr ((g.kp a ob eo).trans eo.symm)⟩
    | lk d =>
      obtain ⟨a, e, n, o⟩ := z
      obtain ⟨ob, eo⟩ := o.some
      exact ⟨a, e, g.nf a o.ne n, o.mono g.fr ((g.kp a ob eo).trans eo.symm)⟩
  · cases q : H b with
    | none => exact absurd q e
    | some o => rw [g.kp b o q]; exact fun z => nomatch z
/-- what a built-in hands back -/
def ResOk (K : PySem.W.Frag) (H₀ F H : Hp) (v : V) : Rs → Prop
  | .fz d => Rp K F v d
  | .ow d => ∃ a, v = .ref a ∧ H₀ a = none ∧ F a = none ∧ Ob K F H a d
  | .nm _ => False
def NewR (K : PySem.W.Frag) (F H : Hp) (r : Rs) (Q : VK) : Prop := ∀ F' H' v, Grow F H F' H' → ResOk K H F' H' v r → Q v H'
theorem Sta.res {H₀ : Hp} {v : V} {r : Rs} (s : Sta K F H σ ρ) (g : Grow F H F' H') (h : ResOk K H F' H' v r) (b : ∀ a, H a = none → H₀ a = none) : RsR K H₀ F' H' σ ρ v r := by
  cases r with
  | fz d => exact h
  | nm i => exact h.elim
  | ow d =>
    obtain ⟨a, e, h0, n, o⟩ := h
    refine ⟨a, e, b a h0, n, o, fun i q => ?_⟩
    obtain ⟨_, d', o'⟩ := s.held q
    exact o'.ne h0
theorem NewR.same {Q : VK} {v : V} {d : D} (h : NewR K F H (.fz d) Q) (s : Same F H) (r : Rp K F v d) : Q v H := h F H v (Grow.refl s) r
theorem NewR.lst {Q : VK} {ds : List D} {vs : List V} {p : Addr} (h : NewR K F H (.ow (.list ds)) Q) (s : Same F H) (r : RpA K F vs ds) (n : H p = none) : Q (.ref p) (upd H p (.lst vs)) := by
  have fn : F p = none := s.free n
  exact h F _ _ ⟨Same.refl _, s.trans (same_upd n), same_upd n, fun _ _ e => e⟩ ⟨p, rfl, n, fn, vs, upd_same, r⟩
theorem NewR.tup {Q : VK} {ds : List D} {vs : List V} {p : Addr} (h : NewR K F H (.fz (.tuple ds)) Q) (s : Same F H) (r : RpA K F vs ds) (n : H p = none) : Q (.ref p) (upd H p (.tup vs)) := by
  have fn : F p = none := s.free n
  refine h (upd F p (.tup vs)) _ _ ⟨same_upd fn, fun b o e => ?_, same_upd n, fun b e q => ?_⟩ (.tup (.inl (.inl upd_same)) (r.mono (same_upd fn)))
  · by_cases hb : b = p
    · subst hb; rw [upd_same] at e ⊢; exact e
    · rw [upd_ne hb] at e ⊢; exact s b o e
  · have hb : b ≠ p := fun z => e (z ▸ n)
    rw [upd_ne hb]; exact q
theorem NewR.dct {Q : VK} {ds : List (D × D)} {vs : List (Key × V)} {p : Addr} (h : NewR K F H (.ow (.dict ds)) Q) (s : Same F H) (r : RpK K F vs ds) (n : H p = none) : Q (.ref p) (upd H p (.dK vs)) := by
  have fn : F p = none := s.free n
  exact h F _ _ ⟨Same.refl _, s.trans (same_upd n), same_upd n, fun _ _ e => e⟩ ⟨p, rfl, n, fn, vs, upd_same, r⟩
/-! ### views -/
theorem Vw.list {v : V} {ds : List D} (s : Same F H) (h : Vw K F H v (.list ds)) : ∃ a vs, v = .ref a ∧ Rd H a (.lst vs) ∧ RpA K F vs ds := by
  rcases h with h | ⟨a, rfl, vs, e, r⟩
  · cases h with
    | lst h r => exact ⟨_, _, rfl, rd_mono s h, r⟩
  · exact ⟨a, vs, rfl, .inl e, r⟩
theorem Vw.rp {v : V} {d : D} (h : Vw K F H v d) (n : ∀ ds, d ≠ .list ds) (m : ∀ ds, d ≠ .dict ds) : Rp K F v d := by
  rcases h with h | ⟨a, rfl, o⟩
  · exact h
  · cases d with
    | list ds => exact absurd rfl (n ds)
    | dict ds => exact absurd rfl (m ds)
    | _ => exact o.elim
theorem Vw.tuple {v : V} {ds : List D} (s : Same F H) (h : Vw K F H v (.tuple ds)) : ∃ a vs, v = .ref a ∧ SqT K H a vs ∧ RpA K F vs ds := by
  have h1 := h.rp (by intro _ z; cases z) (by intro _ z; cases z)
  cases h1 with
  | tup h2 r => exact ⟨_, _, rfl, sqT_mono s h2, r⟩
theorem Vw.int {v : V} {i : Int} (h : Vw K F H v (.int i)) : v = .int i := by
  have h := h.rp (by intro _ z; cases z) (by intro _ z; cases z)
  cases h; rfl
theorem Vw.str {v : V} {i : Str} (h : Vw K F H v (.str i)) : v = .str i := by
  have h := h.rp (by intro _ z; cases z) (by intro _ z; cases z)
  cases h; rfl
theorem Vw.bool {v : V} {i : Bool} (h : Vw K F H v (.bool i)) : v = .bl i := by
  have h := h.rp (by intro _ z; cases z) (by intro _ z; cases z)
  cases h; rfl
theorem Vw.none {v : V} (h : Vw K F H v .none) : v = .non := by
  have h := h.rp (by intro _ z; cases z) (by intro _ z; cases z)
  cases h; rfl
theorem Vw.dict {v : V} {ds : List (D × D)} (s : Same F H) (h : Vw K F H v (.dict ds)) : ∃ a kvs, v = .ref a ∧ Rd H a (.dK kvs) ∧ RpK K F kvs ds := by
  rcases h with h | ⟨a, rfl, vs, e, r⟩
  · cases h with
    | dct h r => exact ⟨_, _, rfl, rd_mono s h, r⟩
  · exact ⟨a, vs, rfl, .inl e, r⟩
theorem Vw.ext {v : V} {d : D} {ρ2 : List Sl} {F2 H2 : Hp} (h : Vw K F H v d) (g : Grow F H F2 H2) : Vw K F2 H2 v d := by
  rcases h with h | ⟨a, rfl, o⟩
  · exact .inl (h.mono g.fr)
  · obtain ⟨ob, eo⟩ := o.some
    exact .inr ⟨a, rfl, o.mono g.fr ((g.kp a ob eo).trans eo.symm)⟩
/-! ### names and constants -/
def dVar (i : Nat) : M Rs := fun ρ => match ρ[i]? with
  | some (.fz d) => .ok (.fz d) ρ
  | some (.ow _) => .ok (.nm i) ρ
  | some (.lk _) => .ok (.nm i) ρ
  | _ => .bad
theorem pv' {X : Cx} (i : Nat) {x : Str} {pos : Pos} (hN : X.N[i]? = some x := by rfl) (hv : Vis X.env.scope x := by first | exact Or.inl rfl | exact Or.inr (Or.inl rfl) | exact Or.inr (Or.inr rfl)) (hd : (x == ("__debug__" : Str)) = false := by decide)
    (hcd : (x == ("__classdict__" : Str)) = false := by decide) : PE X (.Name x pos) (tSem X.K (dVar i)) := by
  refine peWeak (pe_var hN hv hd hcd) fun σ H Q h => ?_
  obtain ⟨F, ρ, r, ρ', s, e, k⟩ := h
  unfold dVar at e
  cases q : ρ[i]? with
  | none => rw [q] at e; cases e
  | some sl =>
    rw [q] at e
    have z := s.sl i sl q
    cases sl with
    | em => cases e
    | fz d => cases e; obtain ⟨v, e1, e2⟩ := z; exact ⟨v, e1, k F H v (Ext.refl s) e2⟩
    | ow d => cases e; obtain ⟨a, e1, e2, e3⟩ := z; exact ⟨_, e1, k F H _ (Ext.refl s) e1⟩
    | lk d => cases e; obtain ⟨a, e1, e2, e3⟩ := z; exact ⟨_, e1, k F H _ (Ext.refl s) e1⟩
def dC (d : D) : M Rs := pr (.fz d)
theorem sem_C {d : D} {v : V} (h : ∀ K F, Rp K F v d) : ∀ σ H Q, tSem K (dC d) σ H Q → tC v σ H Q := fun σ H Q ⟨F, ρ, r, ρ', s, e, k⟩ => by
  cases e; exact k F H v (Ext.refl s) (h K F)
section
variable {X : Cx}
theorem ci {i : Int} {j : Nat} {pos : Pos} : PE X (.Constant (.int i) j pos) (tSem X.K (dC (.int i))) := peWeak pe_int (sem_C fun _ _ => .int i)
theorem cb {b : Bool} {j : Nat} {pos : Pos} : PE X (.Constant (.bool b) j pos) (tSem X.K (dC (.bool b))) := peWeak pe_bl (sem_C fun _ _ => .bl b)
theorem cn {j : Nat} {pos : Pos} : PE X (.Constant .none j pos) (tSem X.K (dC .none)) := peWeak pe_non (sem_C fun _ _ => .non)
theorem cs {x : Str} {j : Nat} {pos : Pos} : PE X (.Constant (.str x) j pos) (tSem X.K (dC (.str x))) := peWeak pe_str (sem_C fun _ _ => .str x)
end
/-! ### two places -/
abbrev G2 := D → D → Option Rs
def Op2 (K : PySem.W.Frag) (r : R2) (g : G2) : Prop := ∀ F H x y dx dy res Q, Same F H → Vw K F H x dx → Vw K F H y dy → g dx dy = some res → NewR K F H res Q → r x y H Q
def dOp2 (g : G2) (fa fb : M Rs) : M Rs := bd fa fun ra => bd fb fun rb => bd (look ra) fun da => bd (look rb) fun db => opt (g da db)
theorem sem_op2 {r : R2} {g : G2} {fa fb : M Rs} (h : Op2 K r g) : ∀ σ H Q, tSem K (dOp2 g fa fb) σ H Q → tOp r (tSem K fa) (tSem K fb) σ H Q := fun σ H Q ⟨F, ρ, res, ρ', s, e, k⟩ => by
  obtain ⟨ra, ρ1, e1, e⟩ := bd_ok e
  obtain ⟨rb, ρ2, e2, e⟩ := bd_ok e
  obtain ⟨da, ρ3, e3, e⟩ := bd_ok e
  obtain ⟨db, ρ4, e4, e⟩ := bd_ok e
  obtain ⟨eg, e5⟩ := opt_ok e
  refine ⟨F, ρ, ra, ρ1, s, e1, fun F1 H1 x x1 r1 => ⟨F1, ρ1, rb, ρ2, x1.st, e2, fun F2 H2 y x2 r2 => ?_⟩⟩
  have r1' := r1.ext x2
  obtain ⟨e3', w1⟩ := look_ok x2.st r1' e3
  subst e3'
  obtain ⟨e4', w2⟩ := look_ok x2.st r2 e4
  subst e4'
  subst e5
  refine h F2 H2 x y da db res Q x2.st.le w1 w2 eg fun F3 H3 v g hr => ?_
  have x3 := x2.st.grow g
  exact k F3 H3 v ((x1.trans x2).trans x3) (x2.st.res g hr fun a z => (x1.trans x2).back z)
theorem sem_op2T {r : R2} {g : D → D → Option Bool} {fa fb : M Rs} (h : Op2 K r (fun a b => (g a b).map fun k => .fz (.bool k))) :
    ∀ σ H Q, tSemT K (bd fa fun ra => bd fb fun rb => bd (look ra) fun da => bd (look rb) fun db => opt (g da db)) σ H Q → tTest (tOp r (tSem K fa) (tSem K fb)) σ H Q := fun σ H Q ⟨F, ρ, res, ρ', s, e, k⟩ => by
  refine sem_op2 h σ H _ ⟨F, ρ, .fz (.bool res), ρ', s, ?_, fun F' H' v x r => ?_⟩
  · obtain ⟨ra, ρ1, e1, e⟩ := bd_ok e
    obtain ⟨rb, ρ2, e2, e⟩ := bd_ok e
    obtain ⟨da, ρ3, e3, e⟩ := bd_ok e
    obtain ⟨db, ρ4, e4, e⟩ := bd_ok e
    obtain ⟨eg, e5⟩ := opt_ok e
    unfold dOp2 bd
    simp only [e1, e2, e3, e4, eg, e5, opt, Option.map]
  · have r : Rp K F' v (.bool res) := r
    cases r
    exact ⟨res, rfl, k F' H' x⟩
def dOp2T (g : D → D → Option Bool) (fa fb : M Rs) : M Bool := bd fa fun ra => bd fb fun rb => bd (look ra) fun da => bd (look rb) fun db => opt (g da db)
/-! ### one place -/
def Op1 (K : PySem.W.Frag) (r : V → Hp → VK → Prop) (g : D → Option Rs) : Prop := ∀ F H x dx res Q, Same F H → Vw K F H x dx → g dx = some res → NewR K F H res Q → r x H Q
def dOp1 (g : D → Option Rs) (fa : M Rs) : M Rs := bd fa fun ra => bd (look ra) fun da => opt (g da)
theorem sem_op1 {r : V → Hp → VK → Prop} {g : D → Option Rs} {fa : M Rs} (h : Op1 K r g) : ∀ σ H Q, tSem K (dOp1 g fa) σ H Q → tUn r (tSem K fa) σ H Q := fun σ H Q ⟨F, ρ, res, ρ', s, e, k⟩ => by
  obtain ⟨ra, ρ1, e1, e⟩ := bd_ok e
  obtain ⟨da, ρ3, e3, e⟩ := bd_ok e
  obtain ⟨eg, e5⟩ := opt_ok e
  refine ⟨F, ρ, ra, ρ1, s, e1, fun F1 H1 x x1 r1 => ?_⟩
  obtain ⟨e3', w1⟩ := look_ok x1.st r1 e3
  subst e3'
  subst e5
  refine h F1 H1 x da res Q x1.st.le w1 eg fun F3 H3 v g hr => ?_
  exact k F3 H3 v (x1.trans (x1.st.grow g)) (x1.st.res g hr fun a z => x1.back z)
/-! ### arguments -/
def dNil : M (List Rs) := pr []
def dCons (f : M Rs) (g : M (List Rs)) : M (List Rs) := bd f fun r => bd g fun rs => pr (r :: rs)
theorem sem_nil : ∀ σ H Q, tSemA K dNil σ H Q → tNil σ H Q := fun σ H Q ⟨F, ρ, r, ρ', s, e, k⟩ => by
  cases e
  exact k F H [] (Ext.refl s) ⟨rfl, fun i v r h => by simp at h, fun i j a d e h => by simp at h⟩
theorem sem_cons {f : M Rs} {g : M (List Rs)} : ∀ σ H Q, tSemA K (dCons f g) σ H Q → tCons (tSem K f) (tSemA K g) σ H Q := fun σ H Q ⟨F, ρ, r, ρ', s, e, k⟩ => by
  obtain ⟨r1, ρ1, e1, e⟩ := bd_ok e
  obtain ⟨rs, ρ2, e2, e⟩ := bd_ok e
  obtain ⟨e3, e4⟩ := pr_ok e
  subst e3; subst e4
  refine ⟨F, ρ, r1, ρ1, s, e1, fun F1 H1 v x1 q1 => ⟨F1, ρ1, rs, ρ', x1.st, e2, fun F2 H2 vs x2 q2 => ?_⟩⟩
  refine k F2 H2 (v :: vs) (x1.trans x2) ⟨by rw [List.length_cons, List.length_cons, q2.len], fun i w r h1 h2 => ?_, fun i j a d e h1 h2 h3 h4 => ?_⟩
  · cases i with
    | zero =>
      simp at h1 h2
      subst h1; subst h2
      exact q1.ext x2
    | succ i => exact (q2.at_ i w r (by simpa using h1) (by simpa using h2)).base fun a z => x1.back z
  · have cross : ∀ (j : Nat) (a : Addr) (d e : D), v = .ref a → r1 = .ow d → vs[j]? = some (.ref a) → rs[j]? = some (.ow e) → False := fun j' a' d' e' g1 g2 g3 g4 => by
      rw [g2] at q1
      obtain ⟨b, eb, _, _, ob, _⟩ := q1
      obtain ⟨c, ec, hc, _⟩ := q2.at_ j' _ _ g3 g4
      rw [g1] at eb
      cases eb
      cases ec
      exact ob.ne hc
    cases i with
    | zero =>
      cases j with
      | zero => rfl
      | succ j =>
        simp at h1 h2
        exact (cross j a d e h1 h2 (by simpa using h3) (by simpa using h4)).elim
    | succ i =>
      cases j with
      | zero =>
        simp at h3 h4
        exact (cross i a e d h3 h4 (by simpa using h1) (by simpa using h2)).elim
      | succ j => rw [q2.dj i j a d e (by simpa using h1) (by simpa using h2) (by simpa using h3) (by simpa using h4)]
section
variable {X : Cx} {e : Expr} {es : List Expr} {f : M Rs} {g : M (List Rs)}
theorem an : PA X [] (tSemA X.K dNil) := paWeak pa_nil sem_nil
theorem ac (ha : PE X e (tSem X.K f)) (hr : PA X es (tSemA X.K g)) (hs : starEach (e :: es) X.env = (false, eval e X.env) :: starEach es X.env := by rfl) : PA X (e :: es) (tSemA X.K (dCons f g)) := paWeak (pa_cons ha hr hs) sem_cons
end
def lookA : List Rs → M (List D)
  | [] => pr []
  | r :: rs => bd (look r) fun d => bd (lookA rs) fun ds => pr (d :: ds)
def frzA : List Rs → M (List D)
  | [] => pr []
  | r :: rs => bd (frz r) fun d => bd (frzA rs) fun ds => pr (d :: ds)
/-- values that read as data now -/
def VwA (K : PySem.W.Frag) (F H : Hp) : List V → List D → Prop
  | [], [] => True
  | v :: vs, d :: ds => Vw K F H v d ∧ VwA K F H vs ds
  | _, _ => False
theorem RsA.tail {H₀ : Hp} {v : V} {r : Rs} {vs : List V} {rs : List Rs} (h : RsA K H₀ F H σ ρ (v :: vs) (r :: rs)) : RsR K H₀ F H σ ρ v r ∧ RsA K H₀ F H σ ρ vs rs :=
  ⟨h.at_ 0 v r rfl rfl, ⟨by have := h.len; simpa using this, fun i w s h1 h2 => h.at_ (i + 1) w s (by simpa using h1) (by simpa using h2),
    fun i j a d e h1 h2 h3 h4 => by have := h.dj (i + 1) (j + 1) a d e (by simpa using h1) (by simpa using h2) (by simpa using h3) (by simpa using h4); omega⟩⟩
theorem lookA_ok {H₀ : Hp} (s : Sta K F H σ ρ) : ∀ {vs : List V} {rs : List Rs} {ds : List D} {ρ' : List Sl}, RsA K H₀ F H σ ρ vs rs → lookA rs ρ = .ok ds ρ' → ρ' = ρ ∧ VwA K F H vs ds
  | [], [], ds, ρ', h, e => by cases e; exact ⟨rfl, trivial⟩
  | [], _ :: _, ds, ρ', h, e => by have := h.len; simp at this
  | _ :: _, [], ds, ρ', h, e => by have := h.len; simp at this
  | v :: vs, r :: rs, ds, ρ', h, e => by
    obtain ⟨d, ρ1, e1, e⟩ := bd_ok e
    obtain ⟨ds', ρ2, e2, e⟩ := bd_ok e
    obtain ⟨e3, e4⟩ := pr_ok e
    subst e3; subst e4
    obtain ⟨h1, h2⟩ := h.tail
    obtain ⟨z, w⟩ := look_ok s h1 e1
    rw [z] at e2
    obtain ⟨z', w'⟩ := lookA_ok s h2 e2
    exact ⟨z', w, w'⟩
theorem RsA.ext {H₀ : Hp} {vs : List V} {rs : List Rs} (h : RsA K H₀ F H σ ρ vs rs) (x : Ext K F H σ ρ F' H' σ ρ') : RsA K H₀ F' H' σ ρ' vs rs := ⟨h.len, fun i v r h1 h2 => (h.at_ i v r h1 h2).ext x, h.dj⟩
end
end DL
namespace DL
open PySem PySem.Spec PyProof.Rows L2
section
variable {K : PySem.W.Frag} {F H F' H' : Hp} {σ σ' : SS} {ρ ρ' : List Sl}
/-! ### freezing several -/
theorem hd_set_fz {i j : Nat} {b : Addr} {d : D} (h : HdAt σ (ρ.set i (.fz d)) j b) : HdAt σ ρ j b := by
  by_cases hj : i = j
  · subst hj
    rcases h with ⟨e, d', q⟩ | ⟨e, d', q⟩ <;>
    · by_cases hi : i < ρ.length
      · rw [List.getElem?_set_self hi] at q; cases q
      · rw [List.getElem?_eq_none (by simpa using hi)] at q; cases q
  · rcases h with ⟨e, d', q⟩ | ⟨e, d', q⟩
    · rw [List.getElem?_set_ne hj] at q; exact .inl ⟨e, d', q⟩
    · rw [List.getElem?_set_ne hj] at q; exact .inr ⟨e, d', q⟩
theorem Ext.freeze' {F₀ H₀ : Hp} {σ₀ : SS} {ρ₀ : List Sl} {i : Nat} {a : Addr} {d : D} {s : Sl} (x : Ext K F₀ H₀ σ₀ ρ₀ F H σ ρ) (hσ : σ[i]? = some (some (.ref a))) (hρ : ρ[i]? = some s) (hs : s = .ow d ∨ s = .lk d) :
    ∃ F', Ext K F₀ H₀ σ₀ ρ₀ F' H σ (ρ.set i (.fz d)) ∧ Rp K F' (.ref a) d ∧ Same F F' ∧ (∀ b, (∀ i, ¬ HdAt σ ρ i b) → F b = none → F' b = none) := by
  have hd : HdAt σ ρ i a := by
    rcases hs with e | e
    · exact .inl ⟨hσ, d, by rw [hρ, e]⟩
    · exact .inr ⟨hσ, d, by rw [hρ, e]⟩
  obtain ⟨F', x', rp⟩ := (Ext.refl x.st).freeze hσ hρ hs
  refine ⟨F', x.trans x', rp, x'.fr, fun b n q => ?_⟩
  cases e : H b with
  | some o => exact x'.nf b (by rw [e]; exact fun z => nomatch z) n q
  | none =>
    cases r : F' b with
    | none => rfl
    | some o =>
      have := x'.st.le b o r
      rw [e] at this; cases this
theorem frz_ok' {F₀ H₀ : Hp} {σ₀ : SS} {ρ₀ : List Sl} {v : V} {r : Rs} {d : D} (x : Ext K F₀ H₀ σ₀ ρ₀ F H σ ρ) (h : RsR K H₀ F H σ ρ v r) (e : frz r ρ = .ok d ρ') :
    ∃ F', Ext K F₀ H₀ σ₀ ρ₀ F' H σ ρ' ∧ Rp K F' v d ∧ Same F F' ∧ (∀ b, (∀ i, ¬ HdAt σ ρ i b) → (∀ d', r = .ow d' → v ≠ .ref b) → F b = none → F' b = none) ∧ ∀ i b, HdAt σ ρ' i b → HdAt σ ρ i b := by
  cases r with
  | fz d' => cases e; exact ⟨F, x, h, Same.refl _, fun _ _ _ e => e, fun _ _ e => e⟩
  | ow d' =>
    obtain ⟨a, e1, h0, hf, ho, hn⟩ := h
    cases e
    subst e1
    obtain ⟨F', x', rp, sm, nb⟩ := x.freezeNew h0 hf ho hn
    refine ⟨F', x', rp, sm, fun b _ q z => ?_, fun _ _ e => e⟩
    rw [nb b fun z => q _ rfl (by rw [z])]; exact z
  | nm i =>
    have h : σ[i]? = some (some v) := h
    unfold frz at e
    simp only at e
    cases q : ρ[i]? with
    | none => rw [q] at e; cases e
    | some sl =>
      rw [q] at e
      have z := x.st.sl i sl q
      cases sl with
      | em => cases e
      | fz d' =>
        cases e
        obtain ⟨w, e1, e2⟩ := z
        rw [h] at e1; cases e1
        exact ⟨F, x, e2, Same.refl _, fun _ _ _ e => e, fun _ _ e => e⟩
      | ow d' =>
        cases e
        obtain ⟨a, e1, e2, e3⟩ := z
        rw [h] at e1; cases e1
        obtain ⟨F', x', rp, sm, nb⟩ := x.freeze' h q (.inl rfl)
        exact ⟨F', x', rp, sm, fun b n _ z => nb b n z, fun _ _ => hd_set_fz⟩
      | lk d' =>
        cases e
        obtain ⟨a, e1, e2, e3⟩ := z
        rw [h] at e1; cases e1
        obtain ⟨F', x', rp, sm, nb⟩ := x.freeze' h q (.inr rfl)
        exact ⟨F', x', rp, sm, fun b n _ z => nb b n z, fun _ _ => hd_set_fz⟩
/-- the others stay what they were when one is frozen -/
theorem RsA.frozen {H₀ : Hp} {v : V} {r : Rs} {vs : List V} {rs : List Rs} (h : RsA K H₀ F H σ ρ (v :: vs) (r :: rs)) (sm : Same F F')
    (nb : ∀ b, (∀ i, ¬ HdAt σ ρ i b) → (∀ d', r = .ow d' → v ≠ .ref b) → F b = none → F' b = none) (hb : ∀ i b, HdAt σ ρ' i b → HdAt σ ρ i b) : RsA K H₀ F' H σ ρ' vs rs := by
  refine ⟨h.tail.2.len, fun i w s h1 h2 => ?_, h.tail.2.dj⟩
  have q := h.tail.2.at_ i w s h1 h2
  cases s with
  | fz d => exact q.mono sm
  | nm i => exact q
  | ow d =>
    obtain ⟨a, e, h0, hf, ho, hn⟩ := q
    refine ⟨a, e, h0, nb a hn (fun d' e1 e2 => ?_) hf, ho.mono sm rfl, fun i z => hn i (hb i a z)⟩
    have := h.dj 0 (i + 1) a d' d (by rw [e2]; rfl) (by rw [e1]; rfl) (by rw [← e]; simpa using h1) (by simpa using h2)
    omega
theorem frzA_ok {F₀ H₀ : Hp} {σ₀ : SS} {ρ₀ : List Sl} : ∀ {rs : List Rs} {vs : List V} {ds : List D} {F : Hp} {ρ ρ' : List Sl}, Ext K F₀ H₀ σ₀ ρ₀ F H σ ρ → RsA K H₀ F H σ ρ vs rs → frzA rs ρ = .ok ds ρ' →
    ∃ F', Ext K F₀ H₀ σ₀ ρ₀ F' H σ ρ' ∧ RpA K F' vs ds ∧ Same F F'
  | [], [], ds, F, ρ, ρ', x, h, e => by cases e; exact ⟨F, x, .nil, Same.refl _⟩
  | [], _ :: _, _, _, _, _, _, h, _ => by have := h.len; simp at this
  | _ :: _, [], _, _, _, _, _, h, _ => by have := h.len; simp at this
  | r :: rs, v :: vs, ds, F, ρ, ρ', x, h, e => by
    obtain ⟨d, ρ1, e1, e⟩ := bd_ok e
    obtain ⟨ds', ρ2, e2, e⟩ := bd_ok e
    obtain ⟨e3, e4⟩ := pr_ok e
    subst e3; subst e4
    obtain ⟨F1, x1, rp, sm, nb, hb⟩ := frz_ok' x h.tail.1 e1
    obtain ⟨F2, x2, rpa, sm2⟩ := frzA_ok x1 (h.frozen sm nb hb) e2
    exact ⟨F2, x2, .cons (rp.mono sm2) rpa, sm.trans sm2⟩
/-! ### displays of tuples and lists -/
def dTup (f : M (List Rs)) : M Rs := bd f fun rs => bd (frzA rs) fun ds => if ds.length ≤ 1000 then pr (.fz (.tuple ds)) else fun _ => .bad
def dLst (f : M (List Rs)) : M Rs := bd f fun rs => bd (frzA rs) fun ds => if ds.length ≤ 1000 then pr (.ow (.list ds)) else fun _ => .bad
theorem small_le {n : Nat} (h : n ≤ 1000) : n ≤ sizeLine := Nat.le_trans h (by decide)
theorem sem_tup {f : M (List Rs)} : ∀ σ H Q, tSem K (dTup f) σ H Q → tTup (tSemA K f) σ H Q := fun σ H Q ⟨F, ρ, r, ρ', s, e, k⟩ => by
  obtain ⟨rs, ρ1, e1, e⟩ := bd_ok e
  obtain ⟨ds, ρ2, e2, e⟩ := bd_ok e
  split at e
  case isFalse => cases e
  case isTrue hl =>
    obtain ⟨e3, e4⟩ := pr_ok e
    subst e3; subst e4
    refine ⟨F, ρ, rs, ρ1, s, e1, fun F1 H1 vs x1 q1 => ?_⟩
    obtain ⟨F2, x2, rpa, _⟩ := frzA_ok x1 q1 e2
    refine ⟨by rw [rpa.length]; exact small_le hl, fun p hp => NewR.tup (F := F2) (K := K) (fun F3 H3 v g hr => k F3 H3 v (x2.trans (x2.st.grow g)) (x2.st.res g hr fun a z => x2.back z)) x2.st.le rpa hp⟩
theorem sem_lst {f : M (List Rs)} : ∀ σ H Q, tSem K (dLst f) σ H Q → tLst (tSemA K f) σ H Q := fun σ H Q ⟨F, ρ, r, ρ', s, e, k⟩ => by
  obtain ⟨rs, ρ1, e1, e⟩ := bd_ok e
  obtain ⟨ds, ρ2, e2, e⟩ := bd_ok e
  split at e
  case isFalse => cases e
  case isTrue hl =>
    obtain ⟨e3, e4⟩ := pr_ok e
    subst e3; subst e4
    refine ⟨F, ρ, rs, ρ1, s, e1, fun F1 H1 vs x1 q1 => ?_⟩
    obtain ⟨F2, x2, rpa, _⟩ := frzA_ok x1 q1 e2
    refine ⟨by rw [rpa.length]; exact small_le hl, fun p hp => NewR.lst (F := F2) (K := K) (fun F3 H3 v g hr => k F3 H3 v (x2.trans (x2.st.grow g)) (x2.st.res g hr fun a z => x2.back z)) x2.st.le rpa hp⟩
section
variable {X : Cx} {es : List Expr} {f : M (List Rs)} {pos : Pos} {x1 : Nat}
theorem et (h : PA X es (tSemA X.K f)) : PE X (.Tuple es x1 pos) (tSem X.K (dTup f)) := peWeak (pe_tup h) sem_tup
theorem el (h : PA X es (tSemA X.K f)) : PE X (.List es pos) (tSem X.K (dLst f)) := peWeak (pe_lst h) sem_lst
end
/-! ### built-ins of several values -/
def OpN (K : PySem.W.Frag) (r : List V → Hp → VK → Prop) (g : List D → Option Rs) : Prop := ∀ F H xs ds res Q, Same F H → VwA K F H xs ds → g ds = some res → NewR K F H res Q → r xs H Q
def dB (g : List D → Option Rs) (f : M (List Rs)) : M Rs := bd f fun rs => bd (lookA rs) fun ds => opt (g ds)
theorem sem_B {r : List V → Hp → VK → Prop} {g : List D → Option Rs} {f : M (List Rs)} (h : OpN K r g) : ∀ σ H Q, tSem K (dB g f) σ H Q → tCB r (tSemA K f) σ H Q := fun σ H Q ⟨F, ρ, res, ρ', s, e, k⟩ => by
  obtain ⟨rs, ρ1, e1, e⟩ := bd_ok e
  obtain ⟨ds, ρ3, e3, e⟩ := bd_ok e
  obtain ⟨eg, e5⟩ := opt_ok e
  refine ⟨F, ρ, rs, ρ1, s, e1, fun F1 H1 vs x1 q1 => ?_⟩
  obtain ⟨e3', w⟩ := lookA_ok x1.st q1 e3
  subst e3'; subst e5
  refine h F1 H1 vs ds res Q x1.st.le w eg fun F3 H3 v g hr => ?_
  exact k F3 H3 v (x1.trans (x1.st.grow g)) (x1.st.res g hr fun a z => x1.back z)
/-! ### calls of defs -/
def argS (l : Bool) (r : Rs) : M Rs := fun ρ => match r with
  | .fz d => .ok (.fz d) ρ
  | .ow d => .ok (.ow d) ρ
  | .nm i => match ρ[i]? with
    | some (.fz d) => .ok (.fz d) ρ
    | some (.ow d) => if l then .ok (.nm i) ρ else .ok (.fz d) (ρ.set i (.fz d))
    | some (.lk d) => if l then .ok (.nm i) ρ else .ok (.fz d) (ρ.set i (.fz d))
    | _ => .bad
def argSA : List Bool → List Rs → M (List Rs)
  | l :: ls, r :: rs => bd (argS l r) fun r' => bd (argSA ls rs) fun rs' => pr (r' :: rs')
  | [], [] => pr []
  | _, _ => fun _ => .bad
def slotOf (ρ : List Sl) : Rs → Sl
  | .fz d => .fz d
  | .ow d => .ow d
  | .nm i => (ρ[i]?).getD .em
def isNm (i : Nat) : Rs → Bool
  | .nm j => i == j
  | _ => false
def nmOk : List Rs → Bool
  | .nm i :: rs => !(rs.any (isNm i)) && nmOk rs
  | _ :: rs => nmOk rs
  | [] => true
/-- the slots of what was lent, as the callee left them -/
def wb : List Rs → List Sl → List Sl → List Sl
  | .nm i :: rs, s :: ss, ρ => wb rs ss (ρ.set i s)
  | _ :: rs, _ :: ss, ρ => wb rs ss ρ
  | _, _, ρ => ρ
def heldR (ρ : List Sl) : Rs → Bool
  | .nm i => match ρ[i]? with
    | some (.ow _) => true
    | some (.lk _) => true
    | _ => false
  | _ => true
def dCall (ls : List Bool) (sem : M Rs) (f : M (List Rs)) : M Rs := bd f fun rs => bd (argSA ls rs) fun rs' => fun ρ =>
  if (nmOk rs' && rs'.all (heldR ρ)) = true then match sem (rs'.map (slotOf ρ)) with
    | .ok (.fz d) ρp => .ok (.fz d) (wb rs' ρp ρ)
    | .ok (.ow d) ρp => .ok (.ow d) (wb rs' ρp ρ)
    | _ => .bad
  else .bad
theorem argS_ok {F₀ H₀ : Hp} {σ₀ : SS} {ρ₀ : List Sl} {l : Bool} {v : V} {r r' : Rs} (x : Ext K F₀ H₀ σ₀ ρ₀ F H σ ρ) (h : RsR K H₀ F H σ ρ v r) (e : argS l r ρ = .ok r' ρ') :
    ∃ F', Ext K F₀ H₀ σ₀ ρ₀ F' H σ ρ' ∧ RsR K H₀ F' H σ ρ' v r' ∧ (∀ d, r' = .ow d → r = .ow d) ∧ Same F F' ∧ (∀ b, (∀ i, ¬ HdAt σ ρ i b) → F b = none → F' b = none) ∧ ∀ i b, HdAt σ ρ' i b → HdAt σ ρ i b := by
  cases r with
  | fz d => cases e; exact ⟨F, x, h, (fun _ e => nomatch e), Same.refl _, fun _ _ e => e, fun _ _ e => e⟩
  | ow d => cases e; exact ⟨F, x, h, fun _ e => e, Same.refl _, fun _ _ e => e, fun _ _ e => e⟩
  | nm i =>
    have h' : σ[i]? = some (some v) := h
    unfold argS at e
    simp only at e
    cases q : ρ[i]? with
    | none => rw [q] at e; cases e
    | some sl =>
      rw [q] at e
      have z := x.st.sl i sl q
      cases sl with
      | em => cases e
      | fz d' =>
        cases e
        obtain ⟨w, e1, e2⟩ := z
        rw [h'] at e1; cases e1
        exact ⟨F, x, e2, (fun _ e => nomatch e), Same.refl _, fun _ _ e => e, fun _ _ e => e⟩
      | ow d' =>
        obtain ⟨a, e1, e2, e3⟩ := z
        rw [h'] at e1; cases e1
        simp only at e
        split at e
        · cases e; exact ⟨F, x, h, (fun _ e => nomatch e), Same.refl _, fun _ _ e => e, fun _ _ e => e⟩
        · cases e
          obtain ⟨F', x', rp, sm, nb⟩ := x.freeze' h' q (.inl rfl)
          exact ⟨F', x', rp, (fun _ e => nomatch e), sm, fun b n z => nb b n z, fun _ _ => hd_set_fz⟩
      | lk d' =>
        obtain ⟨a, e1, e2, e3⟩ := z
        rw [h'] at e1; cases e1
        simp only at e
        split at e
        · cases e; exact ⟨F, x, h, (fun _ e => nomatch e), Same.refl _, fun _ _ e => e, fun _ _ e => e⟩
        · cases e
          obtain ⟨F', x', rp, sm, nb⟩ := x.freeze' h' q (.inr rfl)
          exact ⟨F', x', rp, (fun _ e => nomatch e), sm, fun b n z => nb b n z, fun _ _ => hd_set_fz⟩
theorem argSA_ok {F₀ H₀ : Hp} {σ₀ : SS} {ρ₀ : List Sl} : ∀ {ls : List Bool} {rs rs' : List Rs} {vs : List V} {F : Hp} {ρ ρ' : List Sl}, Ext K F₀ H₀ σ₀ ρ₀ F H σ ρ → RsA K H₀ F H σ ρ vs rs → argSA ls rs ρ = .ok rs' ρ' →
    ∃ F', Ext K F₀ H₀ σ₀ ρ₀ F' H σ ρ' ∧ RsA K H₀ F' H σ ρ' vs rs' ∧ (∀ (j : Nat) (d : D), rs'[j]? = some (.ow d) → rs[j]? = some (.ow d)) ∧ Same F F' ∧ (∀ b, (∀ i, ¬ HdAt σ ρ i b) → F b = none → F' b = none) ∧ ∀ i b, HdAt σ ρ' i b → HdAt σ ρ i b
  | [], [], rs', [], F, ρ, ρ', x, h, e => by cases e; exact ⟨F, x, h, fun _ _ e => e, Same.refl _, fun _ _ e => e, fun _ _ e => e⟩
  | _, [], _, _ :: _, _, _, _, _, h, _ => by have := h.len; simp at this
  | _, _ :: _, _, [], _, _, _, _, h, _ => by have := h.len; simp at this
  | [], _ :: _, _, _ :: _, _, _, _, _, h, e => by cases e
  | _ :: _, [], _, _, _, _, _, _, h, e => by cases e
  | l :: ls, r :: rs, rs', v :: vs, F, ρ, ρ', x, h, e => by
    obtain ⟨r1, ρ1, e1, e⟩ := bd_ok e
    obtain ⟨rs1, ρ2, e2, e⟩ := bd_ok e
    obtain ⟨e3, e4⟩ := pr_ok e
    subst e3; subst e4
    obtain ⟨F1, x1, q1, ow1, sm, nb, hb⟩ := argS_ok x h.tail.1 e1
    obtain ⟨F2, x2, q2, ow2, sm2, nb2, hb2⟩ := argSA_ok x1 (h.frozen sm (fun b n _ z => nb b n z) hb) e2
    refine ⟨F2, x2, ⟨by rw [List.length_cons, List.length_cons, q2.len], fun i w s h1 h2 => ?_, fun i j a d e h1 h2 h3 h4 => ?_⟩, fun j d z => ?_, sm.trans sm2, fun b n z => nb2 b (fun i y => n i (hb i b y)) (nb b n z), fun i b y => hb i b (hb2 i b y)⟩
    · cases i with
      | zero =>
        simp at h1 h2
        subst h1; subst h2
        cases r1 with
        | fz d => exact Rp.mono sm2 q1
        | nm i => exact q1
        | ow d =>
          obtain ⟨a, e, h0, hf, ho, hn⟩ := q1
          exact ⟨a, e, h0, nb2 a hn hf, ho.mono sm2 rfl, fun i z => hn i (hb2 i a z)⟩
      | succ i => exact q2.at_ i w s (by simpa using h1) (by simpa using h2)
    · have o1 : (r :: rs)[i]? = some (.ow d) := by
        cases i with
        | zero => simp at h2 ⊢; exact ow1 d h2
        | succ i => simp at h2 ⊢; exact ow2 i d h2
      have o2 : (r :: rs)[j]? = some (.ow e) := by
        cases j with
        | zero => simp at h4 ⊢; exact ow1 e h4
        | succ j => simp at h4 ⊢; exact ow2 j e h4
      exact h.dj i j a d e h1 o1 h3 o2
    · cases j with
      | zero => simp at z ⊢; exact ow1 d z
      | succ j => simp at z ⊢; exact ow2 j d z
theorem argSA_len : ∀ {ls : List Bool} {rs rs' : List Rs} {ρ ρ' : List Sl}, argSA ls rs ρ = .ok rs' ρ' → rs.length = ls.length
  | [], [], _, _, _, _ => rfl
  | [], _ :: _, _, _, _, e => by cases e
  | _ :: _, [], _, _, _, e => by cases e
  | _ :: _, _ :: _, _, _, _, e => by
    obtain ⟨r1, ρ3, _, e2⟩ := bd_ok e
    obtain ⟨rs1, ρ4, e4, _⟩ := bd_ok e2
    rw [List.length_cons, List.length_cons, argSA_len e4]
theorem nm_not {i : Nat} : ∀ {rs : List Rs} {j : Nat}, rs.any (isNm i) = false → rs[j]? = some (.nm i) → False
  | [], _, _, h => by simp at h
  | r :: rs, 0, h, e => by
    simp at e; subst e
    simp [isNm] at h
  | r :: rs, j + 1, h, e => by
    rw [List.any_cons, Bool.or_eq_false_iff] at h
    exact nm_not h.2 (j := j) (by simpa using e)
theorem nm_tail {r : Rs} {rs : List Rs} (h : nmOk (r :: rs) = true) : nmOk rs = true ∧ ∀ i, r = .nm i → rs.any (isNm i) = false := by
  cases r with
  | nm i =>
    unfold nmOk at h
    rw [Bool.and_eq_true, Bool.not_eq_true'] at h
    exact ⟨h.2, fun j e => by cases e; exact h.1⟩
  | fz d => exact ⟨h, fun _ e => nomatch e⟩
  | ow d => exact ⟨h, fun _ e => nomatch e⟩
theorem nm_inj : ∀ {rs : List Rs} {j k i : Nat}, nmOk rs = true → rs[j]? = some (.nm i) → rs[k]? = some (.nm i) → j = k
  | [], _, _, _, _, h, _ => by simp at h
  | r :: rs, 0, 0, _, _, _, _ => rfl
  | r :: rs, 0, k + 1, i, h, e1, e2 => by
    simp at e1 e2
    exact (nm_not ((nm_tail h).2 i e1) e2).elim
  | r :: rs, j + 1, 0, i, h, e1, e2 => by
    simp at e1 e2
    exact (nm_not ((nm_tail h).2 i e2) e1).elim
  | r :: rs, j + 1, k + 1, i, h, e1, e2 => by
    rw [nm_inj (nm_tail h).1 (j := j) (k := k) (i := i) (by simpa using e1) (by simpa using e2)]
theorem wb_len : ∀ (rs : List Rs) (ss ρ : List Sl), (wb rs ss ρ).length = ρ.length
  | [], _, _ => rfl
  | .nm i :: rs, s :: ss, ρ => by unfold wb; rw [wb_len, List.length_set]
  | .fz _ :: rs, s :: ss, ρ => by unfold wb; rw [wb_len]
  | .ow _ :: rs, s :: ss, ρ => by unfold wb; rw [wb_len]
  | .nm _ :: _, [], _ => rfl
  | .fz _ :: _, [], _ => rfl
  | .ow _ :: _, [], _ => rfl
theorem wb_get : ∀ {rs : List Rs} {ss ρ : List Sl} {i : Nat}, nmOk rs = true → rs.length = ss.length → i < ρ.length →
    (∃ (j : Nat) (s : Sl), rs[j]? = some (.nm i) ∧ ss[j]? = some s ∧ (wb rs ss ρ)[i]? = some s) ∨ ((∀ j : Nat, rs[j]? ≠ some (Rs.nm i)) ∧ (wb rs ss ρ)[i]? = ρ[i]?)
  | [], _, _, _, _, _, _ => .inr ⟨fun j h => by simp at h, rfl⟩
  | _ :: _, [], _, _, _, h, _ => by simp at h
  | r :: rs, s :: ss, ρ, i, h, hl, hi => by
    have hl' : rs.length = ss.length := by simpa using hl
    obtain ⟨h1, h2⟩ := nm_tail h
    have other : ∀ ρ1 : List Sl, ρ1.length = ρ.length → wb (r :: rs) (s :: ss) ρ = wb rs ss ρ1 → r ≠ .nm i → ρ1[i]? = ρ[i]? →
        (∃ (j : Nat) (s' : Sl), (r :: rs)[j]? = some (.nm i) ∧ (s :: ss)[j]? = some s' ∧ (wb (r :: rs) (s :: ss) ρ)[i]? = some s') ∨ ((∀ j : Nat, (r :: rs)[j]? ≠ some (Rs.nm i)) ∧ (wb (r :: rs) (s :: ss) ρ)[i]? = ρ[i]?) := fun ρ1 l1 w1 n1 g1 => by
      rw [w1]
      rcases wb_get (ρ := ρ1) (i := i) h1 hl' (by omega) with ⟨j, s', q1, q2, q3⟩ | ⟨q1, q2⟩
      · exact .inl ⟨j + 1, s', by simpa using q1, by simpa using q2, q3⟩
      · refine .inr ⟨fun j => ?_, q2.trans g1⟩
        cases j with
        | zero => simp; exact n1
        | succ j => simpa using q1 j
    cases r with
    | fz d => exact other ρ rfl rfl (fun z => nomatch z) rfl
    | ow d => exact other ρ rfl rfl (fun z => nomatch z) rfl
    | nm k =>
      by_cases hk : k = i
      · subst hk
        refine .inl ⟨0, s, rfl, rfl, ?_⟩
        show (wb rs ss (ρ.set k s))[k]? = some s
        rcases wb_get (ss := ss) (ρ := ρ.set k s) (i := k) h1 hl' (by simpa using hi) with ⟨j, s', q1, q2, q3⟩ | ⟨q1, q2⟩
        · exact (nm_not (h2 k rfl) q1).elim
        · rw [q2, List.getElem?_set_self hi]
      · exact other (ρ.set k s) (by simp) rfl (fun z => hk (by cases z; rfl)) (List.getElem?_set_ne hk)
theorem vs_at {vs : List V} {j : Nat} {a : V} : (vs.map some)[j]? = some (some a) ↔ vs[j]? = some a := by
  rw [List.getElem?_map]
  cases vs[j]? <;> simp
theorem slots_at {rs : List Rs} {j : Nat} {s : Sl} (h : (rs.map (slotOf ρ))[j]? = some s) : ∃ r, rs[j]? = some r ∧ slotOf ρ r = s := by
  rw [List.getElem?_map] at h
  cases e : rs[j]? with
  | none => rw [e] at h; cases h
  | some r => rw [e] at h; exact ⟨r, rfl, by simpa using h⟩
/-- what is held through an argument: a new thing, or what a slot of ours holds -/
theorem args_hd {H₀ : Hp} {vs : List V} {rs : List Rs} (h : RsA K H₀ F H σ ρ vs rs) {j : Nat} {b : Addr} (q : HdAt (vs.map some) (rs.map (slotOf ρ)) j b) :
    (∃ d, rs[j]? = some (.ow d) ∧ vs[j]? = some (.ref b)) ∨ ∃ i, rs[j]? = some (.nm i) ∧ vs[j]? = some (.ref b) ∧ HdAt σ ρ i b := by
  rcases q with ⟨e, d, q⟩ | ⟨e, d, q⟩
  · obtain ⟨r, e1, e2⟩ := slots_at q
    have ev := vs_at.mp e
    cases r with
    | fz d' => cases e2
    | ow d' => exact .inl ⟨d', e1, ev⟩
    | nm i =>
      have hi : σ[i]? = some (some (.ref b)) := h.at_ j _ _ ev e1
      refine .inr ⟨i, e1, ev, .inl ⟨hi, d, ?_⟩⟩
      have e2 : (ρ[i]?).getD .em = .ow d := e2
      cases z : ρ[i]? with
      | none => rw [z] at e2; cases e2
      | some s => rw [z] at e2; rw [show s = .ow d from e2]
  · obtain ⟨r, e1, e2⟩ := slots_at q
    have ev := vs_at.mp e
    cases r with
    | fz d' => cases e2
    | ow d' => cases e2
    | nm i =>
      have hi : σ[i]? = some (some (.ref b)) := h.at_ j _ _ ev e1
      refine .inr ⟨i, e1, ev, .inr ⟨hi, d, ?_⟩⟩
      have e2 : (ρ[i]?).getD .em = .lk d := e2
      cases z : ρ[i]? with
      | none => rw [z] at e2; cases e2
      | some s => rw [z] at e2; rw [show s = .lk d from e2]
theorem args_ow {H₀ : Hp} {vs : List V} {rs : List Rs} (h : RsA K H₀ F H σ ρ vs rs) {j : Nat} {b : Addr} (q : OwAt (vs.map some) (rs.map (slotOf ρ)) j b) :
    (∃ d, rs[j]? = some (.ow d) ∧ vs[j]? = some (.ref b)) ∨ ∃ i, rs[j]? = some (.nm i) ∧ vs[j]? = some (.ref b) ∧ OwAt σ ρ i b := by
  obtain ⟨e, d, q⟩ := q
  obtain ⟨r, e1, e2⟩ := slots_at q
  have ev := vs_at.mp e
  cases r with
  | fz d' => cases e2
  | ow d' => exact .inl ⟨d', e1, ev⟩
  | nm i =>
    have hi : σ[i]? = some (some (.ref b)) := h.at_ j _ _ ev e1
    refine .inr ⟨i, e1, ev, hi, d, ?_⟩
    have e2 : (ρ[i]?).getD .em = .ow d := e2
    cases z : ρ[i]? with
    | none => rw [z] at e2; cases e2
    | some s => rw [z] at e2; rw [show s = .ow d from e2]
theorem args_sta {H₀ : Hp} {vs : List V} {rs : List Rs} (s : Sta K F H σ ρ) (h : RsA K H₀ F H σ ρ vs rs) (n : nmOk rs = true) : Sta K F H (vs.map some) (rs.map (slotOf ρ)) := by
  refine ⟨s.le, by rw [List.length_map, List.length_map, h.len], fun j sl q => ?_, fun j k b h1 h2 => ?_⟩
  · obtain ⟨r, e1, e2⟩ := slots_at q
    have hj : j < vs.length := by
      rw [h.len]
      exact (List.getElem?_eq_some_iff.mp e1).1
    have ev : vs[j]? = some vs[j] := List.getElem?_eq_getElem hj
    have z := h.at_ j _ r ev e1
    cases r with
    | fz d => subst e2; exact ⟨_, vs_at.mpr ev, z⟩
    | ow d =>
      subst e2
      obtain ⟨a, ea, _, hf, ho, _⟩ := z
      exact ⟨a, vs_at.mpr (by rw [ev, ea]), hf, ho⟩
    | nm i =>
      have hi : σ[i]? = some (some vs[j]) := z
      have e2 : (ρ[i]?).getD .em = sl := e2
      cases y : ρ[i]? with
      | none => rw [y] at e2; subst e2; trivial
      | some s' =>
        rw [y] at e2
        have e2 : s' = sl := e2
        subst e2
        have w := s.sl i s' y
        rw [hi] at w
        rw [show (vs.map some)[j]? = some (some vs[j]) from vs_at.mpr ev]
        exact w
  · rcases args_hd h h1 with ⟨d, a1, a2⟩ | ⟨i, a1, a2, a3⟩
    · rcases args_hd h h2 with ⟨d', b1, b2⟩ | ⟨i', b1, b2, b3⟩
      · exact h.dj j k b d d' a2 a1 b2 b1
      · obtain ⟨c, ec, _, _, _, hn⟩ := h.at_ j _ _ a2 a1
        cases ec
        exact (hn i' b3).elim
    · rcases args_hd h h2 with ⟨d', b1, b2⟩ | ⟨i', b1, b2, b3⟩
      · obtain ⟨c, ec, _, _, _, hn⟩ := h.at_ k _ _ b2 b1
        cases ec
        exact (hn i a3).elim
      · have e := s.dj i i' b a3 b3
        subst e
        exact nm_inj n a1 b1
theorem held_of {rs : List Rs} (h : rs.all (heldR ρ) = true) {j i : Nat} (e : rs[j]? = some (.nm i)) : ∃ d, ρ[i]? = some (.ow d) ∨ ρ[i]? = some (.lk d) := by
  have hm : Rs.nm i ∈ rs := List.mem_of_getElem? e
  have q := List.all_eq_true.mp h _ hm
  unfold heldR at q
  simp only at q
  cases z : ρ[i]? with
  | none => rw [z] at q; cases q
  | some s =>
    rw [z] at q
    cases s with
    | ow d => exact ⟨d, .inl rfl⟩
    | lk d => exact ⟨d, .inr rfl⟩
    | em => cases q
    | fz d => cases q
theorem call_ext {F₀ H₀ : Hp} {σ₀ : SS} {ρ₀ ρp : List Sl} {vs : List V} {rs : List Rs} (x : Ext K F₀ H₀ σ₀ ρ₀ F H σ ρ) (h : RsA K H₀ F H σ ρ vs rs) (n : nmOk rs = true) (hh : rs.all (heldR ρ) = true)
    (y : Ext K F H (vs.map some) (rs.map (slotOf ρ)) F' H' (vs.map some) ρp) : Ext K F₀ H₀ σ₀ ρ₀ F' H' σ (wb rs ρp ρ) ∧
      (∀ i b, HdAt σ (wb rs ρp ρ) i b → (∃ j, rs[j]? = some (.nm i) ∧ HdAt (vs.map some) ρp j b) ∨ ((∀ j : Nat, rs[j]? ≠ some (Rs.nm i)) ∧ HdAt σ ρ i b)) := by
  have hlp : rs.length = ρp.length := by
    have := y.st.len
    rw [List.length_map] at this
    rw [← h.len]; exact this
  -- where a slot of ours comes from
  have slot : ∀ (i : Nat) (s : Sl), (wb rs ρp ρ)[i]? = some s → (∃ j : Nat, rs[j]? = some (Rs.nm i) ∧ ρp[j]? = some s ∧ ∃ v, vs[j]? = some v ∧ σ[i]? = some (some v)) ∨ ((∀ j : Nat, rs[j]? ≠ some (Rs.nm i)) ∧ ρ[i]? = some s) := fun i s e => by
    have hi : i < ρ.length := by
      have := (List.getElem?_eq_some_iff.mp e).1
      rw [wb_len] at this; exact this
    rcases wb_get (ρ := ρ) n hlp hi with ⟨j, s', q1, q2, q3⟩ | ⟨q1, q2⟩
    · rw [e] at q3; cases q3
      have hj : j < vs.length := by
        rw [h.len]
        exact (List.getElem?_eq_some_iff.mp q1).1
      exact .inl ⟨j, q1, q2, vs[j], List.getElem?_eq_getElem hj, h.at_ j _ _ (List.getElem?_eq_getElem hj) q1⟩
    · exact .inr ⟨q1, q2 ▸ e⟩
  have hdw : ∀ i b, HdAt σ (wb rs ρp ρ) i b → (∃ j, rs[j]? = some (.nm i) ∧ HdAt (vs.map some) ρp j b) ∨ ((∀ j : Nat, rs[j]? ≠ some (Rs.nm i)) ∧ HdAt σ ρ i b) := fun i b q => by
    rcases q with ⟨e, d, q⟩ | ⟨e, d, q⟩
    · rcases slot i _ q with ⟨j, q1, q2, v, q3, q4⟩ | ⟨q1, q2⟩
      · rw [e] at q4; cases q4
        exact .inl ⟨j, q1, .inl ⟨vs_at.mpr q3, d, q2⟩⟩
      · exact .inr ⟨q1, .inl ⟨e, d, q2⟩⟩
    · rcases slot i _ q with ⟨j, q1, q2, v, q3, q4⟩ | ⟨q1, q2⟩
      · rw [e] at q4; cases q4
        exact .inl ⟨j, q1, .inr ⟨vs_at.mpr q3, d, q2⟩⟩
      · exact .inr ⟨q1, .inr ⟨e, d, q2⟩⟩
  -- a slot of ours that was not lent: the callee doesn't touch what it holds
  have apart : ∀ i b, (∀ j : Nat, rs[j]? ≠ some (Rs.nm i)) → HdAt σ ρ i b → ∀ j, ¬ HdAt (vs.map some) (rs.map (slotOf ρ)) j b := fun i b hn q j z => by
    rcases args_hd h z with ⟨d, a1, a2⟩ | ⟨i', a1, a2, a3⟩
    · obtain ⟨c, ec, _, _, _, hn'⟩ := h.at_ j _ _ a2 a1
      cases ec
      exact hn' i q
    · have e := x.st.dj i i' b q a3
      subst e
      exact hn j a1
  -- what a lent slot holds behind the call it held ahead of it
  have lent : ∀ i j b, rs[j]? = some (.nm i) → HdAt (vs.map some) ρp j b → HdAt σ ρ i b := fun i j b q z => by
    have e : (vs.map some)[j]? = some (some (.ref b)) := by rcases z with z | z <;> exact z.1
    have es : σ[i]? = some (some (.ref b)) := h.at_ j _ _ (vs_at.mp e) q
    obtain ⟨d, r | r⟩ := held_of hh q
    · exact .inl ⟨es, d, r⟩
    · exact .inr ⟨es, d, r⟩
  have old : ∀ i b, HdAt σ (wb rs ρp ρ) i b → HdAt σ ρ i b := fun i b q => by
    rcases hdw i b q with ⟨j, a1, a2⟩ | ⟨_, a⟩
    · exact lent i j b a1 a2
    · exact a
  have noOw : ∀ b, H₀ b ≠ none → (∀ i, ¬ OwAt σ₀ ρ₀ i b) → ∀ j, ¬ OwAt (vs.map some) (rs.map (slotOf ρ)) j b := fun b e nb j z => by
    rcases args_ow h z with ⟨d, a1, a2⟩ | ⟨i, a1, a2, a3⟩
    · obtain ⟨c, ec, h0, _⟩ := h.at_ j _ _ a2 a1
      cases ec
      exact e h0
    · rcases x.ow i b a3 with w | w
      · exact nb i w
      · exact e w
  have noHd : ∀ b, H₀ b ≠ none → (∀ i, ¬ HdAt σ₀ ρ₀ i b) → ∀ j, ¬ HdAt (vs.map some) (rs.map (slotOf ρ)) j b := fun b e nb j z => by
    rcases args_hd h z with ⟨d, a1, a2⟩ | ⟨i, a1, a2, a3⟩
    · obtain ⟨c, ec, h0, _⟩ := h.at_ j _ _ a2 a1
      cases ec
      exact e h0
    · rcases x.hd a3 with w | w
      · exact nb i w
      · exact e w
  refine ⟨⟨⟨y.st.le, by rw [wb_len]; exact x.st.len, fun i s q => ?_, fun i k b h1 h2 => x.st.dj i k b (old i b h1) (old k b h2)⟩, x.fr.trans y.fr,
    fun b o e nb => y.kp b o (x.kp b o e nb) (noOw b (by rw [e]; exact fun z => nomatch z) nb), fun b e nb q => y.nf b (x.gr b e) (noHd b e nb) (x.nf b e nb q), fun b e => y.gr b (x.gr b e), fun i b q => ?_, fun i b q => ?_⟩, hdw⟩
  · rcases slot i s q with ⟨j, q1, q2, v, q3, q4⟩ | ⟨q1, q2⟩
    · have z := y.st.sl j s q2
      rw [show (vs.map some)[j]? = some (some v) from vs_at.mpr q3] at z
      rw [q4]; exact z
    · have z := x.st.sl i s q2
      cases s with
      | em => trivial
      | fz d => obtain ⟨v, e, r⟩ := z; exact ⟨v, e, r.mono y.fr⟩
      | ow d =>
        obtain ⟨a, e, nf, o⟩ := z
        obtain ⟨ob, eo⟩ := o.some
        have ap := apart i a q1 (.inl ⟨e, d, q2⟩)
        exact ⟨a, e, y.nf a o.ne ap nf, o.mono y.fr ((y.kp a ob eo fun j w => ap j (.inl w)).trans eo.symm)⟩
      | lk d =>
        obtain ⟨a, e, nf, o⟩ := z
        obtain ⟨ob, eo⟩ := o.some
        have ap := apart i a q1 (.inr ⟨e, d, q2⟩)
        exact ⟨a, e, y.nf a o.ne ap nf, o.mono y.fr ((y.kp a ob eo fun j w => ap j (.inl w)).trans eo.symm)⟩
  · obtain ⟨e, d, q⟩ := q
    rcases slot i _ q with ⟨j, q1, q2, v, q3, q4⟩ | ⟨q1, q2⟩
    · rw [e] at q4; cases q4
      rcases y.ow j b ⟨vs_at.mpr q3, d, q2⟩ with w | w
      · rcases args_ow h w with ⟨d', a1, a2⟩ | ⟨i', a1, a2, a3⟩
        · rw [q1] at a1; cases a1
        · rw [q1] at a1; cases a1; exact x.ow i b a3
      · exact .inr (x.back w)
    · exact x.ow i b ⟨e, d, q2⟩
  · obtain ⟨e, d, q⟩ := q
    rcases slot i _ q with ⟨j, q1, q2, v, q3, q4⟩ | ⟨q1, q2⟩
    · rw [e] at q4; cases q4
      rcases y.lk j b ⟨vs_at.mpr q3, d, q2⟩ with w | w
      · rcases args_hd h w with ⟨d', a1, a2⟩ | ⟨i', a1, a2, a3⟩
        · rw [q1] at a1; cases a1
        · rw [q1] at a1; cases a1; exact x.hd a3
      · exact .inr (x.back w)
    · exact x.hd (.inr ⟨e, d, q2⟩)
/-- a def's promise, by its function of slots -/
def spD (K : PySem.W.Frag) (n : Nat) (sem : M Rs) : Sp := fun vs H Q _ => vs.length = n ∧ tSem K sem (vs.map some) H Q
theorem sem_call {ls : List Bool} {sem : M Rs} {f : M (List Rs)} {n : Nat} {E : XK} (hn : ls.length = n) : ∀ σ H Q, tSem K (dCall ls sem f) σ H Q → tCall (spD K n sem) [] E (tSemA K f) σ H Q := fun σ H Q ⟨F, ρ, r, ρ', s, e, k⟩ => by
  obtain ⟨rs, ρ1, e1, e⟩ := bd_ok e
  obtain ⟨rs', ρ2, e2, e⟩ := bd_ok e
  split at e
  case isFalse => cases e
  case isTrue hc =>
    rw [Bool.and_eq_true] at hc
    refine ⟨F, ρ, rs, ρ1, s, e1, fun F1 H1 vs x1 q1 => ?_⟩
    obtain ⟨F2, x2, q2, _⟩ := argSA_ok x1 q1 e2
    have hlen : (vs ++ []).length = n := by
      rw [List.append_nil, q1.len, ← hn]
      exact argSA_len e2
    refine ⟨hlen, ?_⟩
    rw [List.append_nil]
    cases es : sem (rs'.map (slotOf ρ2)) with
    | bad => rw [es] at e; cases e
    | ok r0 ρp =>
      rw [es] at e
      refine ⟨F2, _, r0, ρp, args_sta x2.st q2 hc.1, es, fun F3 H3 v y qr => ?_⟩
      obtain ⟨x3, hd3⟩ := call_ext x2 q2 hc.1 hc.2 y
      cases r0 with
      | nm i => cases e
      | fz d => cases e; exact k F3 H3 v x3 qr
      | ow d =>
        cases e
        obtain ⟨a, ea, h0, hf, ho, hn⟩ := qr
        refine k F3 H3 v x3 ⟨a, ea, x2.back h0, hf, ho, fun i z => ?_⟩
        rcases hd3 i a z with ⟨j, _, w⟩ | ⟨_, w⟩
        · exact hn j w
        · obtain ⟨_, d', o⟩ := x2.st.held w
          exact o.ne h0
end
end DL
namespace DL
open PySem PySem.Spec PyProof.Rows L2
section
variable {K : PySem.W.Frag} {F H F' H' : Hp} {σ σ' : SS} {ρ ρ' : List Sl}
/-! ### statements -/
/-- the slots of P hold what they held -/
def Prot (P : Nat → Prop) (σ σ' : SS) : Prop := σ'.length = σ.length ∧ ∀ i, P i → σ'[i]? = σ[i]?
theorem Prot.refl {P : Nat → Prop} : Prot P σ σ := ⟨rfl, fun _ _ => rfl⟩
theorem Prot.trans {P : Nat → Prop} {σ2 : SS} (a : Prot P σ σ') (b : Prot P σ' σ2) : Prot P σ σ2 := ⟨b.1.trans a.1, fun i h => (b.2 i h).trans (a.2 i h)⟩
def SRok (K : PySem.W.Frag) (P : Nat → Prop) (F H : Hp) (σ : SS) (ρ : List Sl) (Dn : Ends) : SR → Prop
  | .nx ρ' => ∀ F' H' σ', Ext K F H σ ρ F' H' σ' ρ' → Prot P σ σ' → Dn.nx σ' H'
  | .bk ρ' => ∀ F' H' σ', Ext K F H σ ρ F' H' σ' ρ' → Prot P σ σ' → Dn.bk σ' H'
  | .ct ρ' => ∀ F' H' σ', Ext K F H σ ρ F' H' σ' ρ' → Prot P σ σ' → Dn.ct σ' H'
  | .rt r ρ' => ∀ F' H' σ' v, Ext K F H σ ρ F' H' σ' ρ' → Prot P σ σ' → RsR K H F' H' σ' ρ' v r → Dn.rt v H'
  | .bad => False
def tSemS (K : PySem.W.Frag) (P : Nat → Prop) (f : DS) : TS := fun Dn σ H => ∃ F ρ, Sta K F H σ ρ ∧ SRok K P F H σ ρ Dn (f ρ)
theorem SRok.after {P : Nat → Prop} {F₀ H₀ : Hp} {σ₀ : SS} {ρ₀ : List Sl} {Dn : Ends} {sr : SR} (x : Ext K F₀ H₀ σ₀ ρ₀ F H σ ρ) (p : Prot P σ₀ σ) (h : SRok K P F₀ H₀ σ₀ ρ₀ Dn sr) : SRok K P F H σ ρ Dn sr := by
  cases sr with
  | nx ρ' => exact fun F' H' σ' y q => h F' H' σ' (x.trans y) (p.trans q)
  | bk ρ' => exact fun F' H' σ' y q => h F' H' σ' (x.trans y) (p.trans q)
  | ct ρ' => exact fun F' H' σ' y q => h F' H' σ' (x.trans y) (p.trans q)
  | rt r ρ' => exact fun F' H' σ' v y q k => h F' H' σ' v (x.trans y) (p.trans q) (k.base fun a z => x.back z)
  | bad => exact h
def dSeq (f g : DS) : DS := fun ρ => match f ρ with
  | .nx ρ' => g ρ'
  | .rt r ρ' => .rt r ρ'
  | .bk ρ' => .bk ρ'
  | .ct ρ' => .ct ρ'
  | .bad => .bad
def dPass : DS := fun ρ => .nx ρ
def dBrk : DS := fun ρ => .bk ρ
def dCnt : DS := fun ρ => .ct ρ
def dRet (f : M Rs) : DS := fun ρ => match f ρ with
  | .ok r ρ' => .rt r ρ'
  | .bad => .bad
def dDrop (f : M Rs) : DS := fun ρ => match f ρ with
  | .ok _ ρ' => .nx ρ'
  | .bad => .bad
def dIf (c : M Bool) (f g : DS) : DS := fun ρ => match c ρ with
  | .ok true ρ' => f ρ'
  | .ok false ρ' => g ρ'
  | .bad => .bad
section
variable {P : Nat → Prop}
theorem sem_seq {f g : DS} : ∀ D σ H, tSemS K P (dSeq f g) D σ H → tSeq (tSemS K P f) (tSemS K P g) D σ H := fun D σ H ⟨F, ρ, s, h⟩ => by
  refine ⟨F, ρ, s, ?_⟩
  unfold dSeq at h
  cases e : f ρ with
  | nx ρ' => rw [e] at h; exact fun F' H' σ' x p => ⟨F', ρ', x.st, h.after x p⟩
  | rt r ρ' => rw [e] at h; exact h
  | bk ρ' => rw [e] at h; exact h
  | ct ρ' => rw [e] at h; exact h
  | bad => rw [e] at h; exact h
theorem sem_pass : ∀ D σ H, tSemS K P dPass D σ H → tNext D σ H := fun D σ H ⟨F, ρ, s, h⟩ => h F H σ (Ext.refl s) Prot.refl
theorem sem_ret {f : M Rs} : ∀ D σ H, tSemS K P (dRet f) D σ H → tRet (tSem K f) D σ H := fun D σ H ⟨F, ρ, s, h⟩ => by
  unfold dRet at h
  cases e : f ρ with
  | bad => rw [e] at h; exact h.elim
  | ok r ρ' => rw [e] at h; exact ⟨F, ρ, r, ρ', s, e, fun F' H' v x q => h F' H' σ v x Prot.refl q⟩
theorem sem_drop {f : M Rs} : ∀ D σ H, tSemS K P (dDrop f) D σ H → tDrop (tSem K f) D σ H := fun D σ H ⟨F, ρ, s, h⟩ => by
  unfold dDrop at h
  cases e : f ρ with
  | bad => rw [e] at h; exact h.elim
  | ok r ρ' => rw [e] at h; exact ⟨F, ρ, r, ρ', s, e, fun F' H' v x q => h F' H' σ x Prot.refl⟩
theorem sem_if {c : M Bool} {f g : DS} : ∀ D σ H, tSemS K P (dIf c f g) D σ H → tIfS (tSemT K c) (tSemS K P f) (tSemS K P g) D σ H := fun D σ H ⟨F, ρ, s, h⟩ => by
  unfold dIf at h
  cases e : c ρ with
  | bad => rw [e] at h; exact h.elim
  | ok b ρ' =>
    rw [e] at h
    refine ⟨F, ρ, b, ρ', s, e, fun F' H' x => ?_⟩
    cases b with
    | true => exact iteT ⟨F', ρ', x.st, h.after x Prot.refl⟩
    | false => exact iteF ⟨F', ρ', x.st, h.after x Prot.refl⟩
section
variable {X : Cx} {st : Stmt} {rest : List Stmt} {f g : DS} {e : Expr} {fe : M Rs} {pos : Pos}
theorem sn : PSs X [] (tSemS X.K P dPass) := pssWeak pss_nil sem_pass
theorem sc (h1 : PS X st (tSemS X.K P f)) (h2 : PSs X rest (tSemS X.K P g)) : PSs X (st :: rest) (tSemS X.K P (dSeq f g)) := pssWeak (pss_cons h1 h2) sem_seq
theorem s1 (h1 : PS X st (tSemS X.K P f)) : PSs X [st] (tSemS X.K P f) := pss_one h1
theorem sret (h : PE X e (tSem X.K fe)) : PS X (.Return (some e) pos) (tSemS X.K P (dRet fe)) := psWeak (ps_ret h) sem_ret
theorem sex (h : PE X e (tSem X.K fe)) (hs : swapsWith e none pos.line X.env = pure false := by rfl) : PS X (.Expr e pos) (tSemS X.K P (dDrop fe)) := psWeak (ps_expr h hs) sem_drop
theorem sif {c : Expr} {a b : List Stmt} {tc : M Bool} (hc : PT X c (tSemT X.K tc)) (ha : PSs X a (tSemS X.K P f)) (hb : PSs X b (tSemS X.K P g)) : PS X (.If c a b pos) (tSemS X.K P (dIf tc f g)) := psWeak (ps_if hc ha hb) sem_if
end
/-! ### stores -/
theorem Ext.setSlot {F₀ H₀ : Hp} {σ₀ : SS} {ρ₀ : List Sl} {i : Nat} {v : V} {s : Sl} (x : Ext K F₀ H₀ σ₀ ρ₀ F H σ ρ) (hi : i < ρ.length)
    (hs : (∃ d, s = .fz d ∧ Rp K F v d) ∨ (∃ d a, s = .ow d ∧ v = .ref a ∧ H₀ a = none ∧ F a = none ∧ Ob K F H a d ∧ ∀ i, ¬ HdAt σ ρ i a)) :
    Ext K F₀ H₀ σ₀ ρ₀ F H (σ.set i (some v)) (ρ.set i s) := by
  have hiσ : i < σ.length := by rw [x.st.len]; exact hi
  have owB : ∀ j b, OwAt (σ.set i (some v)) (ρ.set i s) j b → (j ≠ i ∧ OwAt σ ρ j b) ∨ (j = i ∧ v = .ref b ∧ H₀ b = none ∧ ∀ i, ¬ HdAt σ ρ i b) := fun j b ⟨e, d, q⟩ => by
    by_cases hj : i = j
    · subst hj
      rw [List.getElem?_set_self hiσ] at e
      rw [List.getElem?_set_self hi] at q
      cases e; cases q
      rcases hs with ⟨d', e1, _⟩ | ⟨d', a, e1, e2, e3, _, _, e4⟩
      · cases e1
      · cases e2; exact .inr ⟨rfl, rfl, e3, e4⟩
    · rw [List.getElem?_set_ne hj] at e q
      exact .inl ⟨fun z => hj z.symm, e, d, q⟩
  have lkB : ∀ j b, LkAt (σ.set i (some v)) (ρ.set i s) j b → j ≠ i ∧ LkAt σ ρ j b := fun j b ⟨e, d, q⟩ => by
    by_cases hj : i = j
    · subst hj
      rw [List.getElem?_set_self hi] at q
      cases q
      rcases hs with ⟨d', e1, _⟩ | ⟨d', a, e1, _⟩ <;> cases e1
    · rw [List.getElem?_set_ne hj] at e q
      exact ⟨fun z => hj z.symm, e, d, q⟩
  refine ⟨⟨x.st.le, by rw [List.length_set, List.length_set]; exact x.st.len, fun j sl q => ?_, fun j k b h1 h2 => ?_⟩, x.fr, x.kp, x.nf, x.gr, fun j b q => ?_, fun j b q => ?_⟩
  · by_cases hj : i = j
    · subst hj
      rw [List.getElem?_set_self hi] at q; cases q
      rw [List.getElem?_set_self hiσ]
      rcases hs with ⟨d, rfl, r⟩ | ⟨d, a, rfl, rfl, _, h1, h2, _⟩
      · exact ⟨v, rfl, r⟩
      · exact ⟨a, rfl, h1, h2⟩
    · rw [List.getElem?_set_ne hj] at q ⊢
      exact x.st.sl j sl q
  · have c1 : (j ≠ i ∧ HdAt σ ρ j b) ∨ (j = i ∧ ∀ i, ¬ HdAt σ ρ i b) := by
      rcases h1 with h1 | h1
      · rcases owB j b h1 with ⟨n, z⟩ | ⟨n, _, _, z⟩
        · exact .inl ⟨n, .inl z⟩
        · exact .inr ⟨n, z⟩
      · exact .inl ⟨(lkB j b h1).1, .inr (lkB j b h1).2⟩
    have c2 : (k ≠ i ∧ HdAt σ ρ k b) ∨ (k = i ∧ ∀ i, ¬ HdAt σ ρ i b) := by
      rcases h2 with h2 | h2
      · rcases owB k b h2 with ⟨n, z⟩ | ⟨n, _, _, z⟩
        · exact .inl ⟨n, .inl z⟩
        · exact .inr ⟨n, z⟩
      · exact .inl ⟨(lkB k b h2).1, .inr (lkB k b h2).2⟩
    rcases c1 with ⟨_, z1⟩ | ⟨n1, z1⟩
    · rcases c2 with ⟨_, z2⟩ | ⟨n2, z2⟩
      · exact x.st.dj j k b z1 z2
      · exact (z2 j z1).elim
    · rcases c2 with ⟨_, z2⟩ | ⟨n2, z2⟩
      · exact (z1 k z2).elim
      · rw [n1, n2]
  · rcases owB j b q with ⟨_, z⟩ | ⟨_, _, z, _⟩
    · exact x.ow j b z
    · exact .inr z
  · exact x.lk j b (lkB j b q).2
/-- what slot i becomes by r -/
def setR (i : Nat) (r : Rs) : List Sl → Option (List Sl) := fun ρ => if i < ρ.length then match r with
    | .fz d => some (ρ.set i (.fz d))
    | .ow d => some (ρ.set i (.ow d))
    | .nm j => match frz (.nm j) ρ with
      | .ok d ρ' => some (ρ'.set i (.fz d))
      | .bad => none
  else none
def dSet (i : Nat) (f : M Rs) : DS := fun ρ => match f ρ with
  | .bad => .bad
  | .ok r ρ1 => match setR i r ρ1 with
    | some ρ2 => .nx ρ2
    | none => .bad
theorem frz_len {r : Rs} {d : D} (h : frz r ρ = .ok d ρ') : ρ'.length = ρ.length := by
  cases r with
  | fz d' => cases h; rfl
  | ow d' => cases h; rfl
  | nm i =>
    unfold frz at h
    simp only at h
    cases q : ρ[i]? with
    | none => rw [q] at h; cases h
    | some s =>
      rw [q] at h
      cases s <;> cases h <;> simp
theorem setR_ok {F₀ H₀ : Hp} {σ₀ : SS} {ρ₀ : List Sl} {i : Nat} {v : V} {r : Rs} (x : Ext K F₀ H₀ σ₀ ρ₀ F H σ ρ) (h : RsR K H₀ F H σ ρ v r) (e : setR i r ρ = some ρ') :
    ∃ F', Ext K F₀ H₀ σ₀ ρ₀ F' H (σ.set i (some v)) ρ' := by
  unfold setR at e
  split at e
  case isFalse => cases e
  case isTrue hi =>
    cases r with
    | fz d => cases e; exact ⟨F, x.setSlot hi (.inl ⟨d, rfl, h⟩)⟩
    | ow d =>
      cases e
      obtain ⟨a, e1, e2, e3, e4, e5⟩ := h
      exact ⟨F, x.setSlot hi (.inr ⟨d, a, rfl, e1, e2, e3, e4, e5⟩)⟩
    | nm j =>
      cases q : frz (.nm j) ρ with
      | bad => simp only [q] at e; cases e
      | ok d ρ1 =>
        simp only [q] at e
        cases e
        obtain ⟨F', x', rp⟩ := frz_ok x h q
        exact ⟨F', x'.setSlot (by rw [frz_len q]; exact hi) (.inl ⟨d, rfl, rp⟩)⟩
theorem prot_set {i : Nat} {v : Option V} (h : ¬ P i) : Prot P σ (σ.set i v) := ⟨by rw [List.length_set], fun j hj => by
  rw [List.getElem?_set_ne]
  exact fun z => h (z ▸ hj)⟩
theorem sem_set {i : Nat} {f : M Rs} (hP : ¬ P i) : ∀ D σ H, tSemS K P (dSet i f) D σ H → tAsg (tSem K f) (gName i) D σ H := fun D σ H ⟨F, ρ, s, h⟩ => by
  unfold dSet at h
  cases e : f ρ with
  | bad => rw [e] at h; exact h.elim
  | ok r ρ1 =>
    rw [e] at h
    cases e2 : setR i r ρ1 with
    | none => simp only [e2] at h; exact h.elim
    | some ρ2 =>
      simp only [e2] at h
      refine ⟨F, ρ, r, ρ1, s, e, fun F' H' v x q => ?_⟩
      obtain ⟨F2, x2⟩ := setR_ok x q e2
      exact h F2 H' _ x2 (prot_set hP)
/-! ### targets that take values for good -/
abbrev DG := D → List Sl → Option (List Sl)
def tSemG (K : PySem.W.Frag) (P : Nat → Prop) (g : DG) : TG := fun v σ H Q => ∃ F ρ d ρ', Sta K F H σ ρ ∧ Rp K F v d ∧ g d ρ = some ρ' ∧ ∀ σ', Ext K F H σ ρ F H σ' ρ' → Prot P σ σ' → Q σ' H
abbrev DGs := List D → List Sl → Option (List Sl)
def tSemGs (K : PySem.W.Frag) (P : Nat → Prop) (g : DGs) : TGs := fun v σ H Q => ∃ F ρ d ρ', Sta K F H σ ρ ∧ RpA K F v d ∧ g d ρ = some ρ' ∧ ∀ σ', Ext K F H σ ρ F H σ' ρ' → Prot P σ σ' → Q σ' H
theorem pgWeak {X : Cx} {e : Expr} {t t' : TG} (h : PG X e t) (w : ∀ v σ H Q, t' v σ H Q → t v σ H Q) : PG X e t' :=
  ⟨fun pins s σ H v u Q I r q => h.run pins s σ H v u Q I r (w v σ H Q q)⟩
theorem pgsWeak {X : Cx} {e : List Expr} {t t' : TGs} (h : PGs X e t) (w : ∀ v σ H Q, t' v σ H Q → t v σ H Q) : PGs X e t' :=
  ⟨fun pins s σ H v u Q I r q => h.run pins s σ H v u Q I r (w v σ H Q q)⟩
def gN (i : Nat) : DG := fun d ρ => if i < ρ.length then some (ρ.set i (.fz d)) else none
def gsN : DGs := fun ds ρ => match ds with
  | [] => some ρ
  | _ => none
def gsC (g : DG) (gs : DGs) : DGs := fun ds ρ => match ds with
  | d :: ds => match g d ρ with
    | some ρ' => gs ds ρ'
    | none => none
  | [] => none
def gT (n : Nat) (gs : DGs) : DG := fun d ρ => match d with
  | .tuple ds => if ds.length = n then gs ds ρ else none
  | _ => none
theorem sem_gN {i : Nat} (hP : ¬ P i) : ∀ v σ H Q, tSemG K P (gN i) v σ H Q → gName i v σ H Q := fun v σ H Q ⟨F, ρ, d, ρ', s, r, e, k⟩ => by
  unfold gN at e
  split at e
  case isFalse => cases e
  case isTrue hi => cases e; exact k _ ((Ext.refl s).setSlot hi (.inl ⟨d, rfl, r⟩)) (prot_set hP)
theorem sem_gsN : ∀ v σ H Q, tSemGs K P gsN v σ H Q → gNil v σ H Q := fun v σ H Q ⟨F, ρ, d, ρ', s, r, e, k⟩ => by
  cases d with
  | cons _ _ => cases e
  | nil => cases e; cases r; exact ⟨rfl, k _ (Ext.refl s) Prot.refl⟩
theorem sem_gsC {g : DG} {gs : DGs} : ∀ v σ H Q, tSemGs K P (gsC g gs) v σ H Q → gCons (tSemG K P g) (tSemGs K P gs) v σ H Q := fun v σ H Q ⟨F, ρ, d, ρ', s, r, e, k⟩ => by
  cases d with
  | nil => cases e
  | cons d ds =>
    unfold gsC at e
    simp only at e
    cases e1 : g d ρ with
    | none => rw [e1] at e; cases e
    | some ρ1 =>
      rw [e1] at e
      cases r with
      | cons r rr =>
        exact ⟨_, _, rfl, F, ρ, d, ρ1, s, r, e1, fun σ1 x1 p1 => ⟨F, ρ1, ds, ρ', x1.st, rr, e, fun σ2 x2 p2 => k σ2 (x1.trans x2) (p1.trans p2)⟩⟩
theorem sem_gT {n : Nat} {gs : DGs} : ∀ v σ H Q, tSemG K P (gT n gs) v σ H Q → gTup K n (tSemGs K P gs) v σ H Q := fun v σ H Q ⟨F, ρ, d, ρ', s, r, e, k⟩ => by
  cases d with
  | tuple ds =>
    unfold gT at e
    simp only at e
    split at e
    case isFalse => cases e
    case isTrue hn =>
      cases r with
      | tup h rr => exact ⟨_, _, rfl, sqT_mono s.le h, by rw [rr.length]; exact hn, F, ρ, ds, ρ', s, rr, e, k⟩
  | _ => cases e
section
variable {X : Cx} {e : Expr} {es : List Expr} {g : DG} {gs : DGs} {pos : Pos}
theorem gn {i : Nat} {x : Str} (hP : ¬ P i) (hN : X.N.Nodup) (hi : X.N[i]? = some x) (hx : Loc X.env.scope x) (hf : X.fn x = true ∨ X.env.scope.names.lookup x = some .local := by first | exact .inl rfl | exact .inr rfl | assumption) : PG X (.Name x pos) (tSemG X.K P (gN i)) :=
  pgWeak (pg_name hN hi hx hf) (sem_gN hP)
theorem gsn : PGs X [] (tSemGs X.K P gsN) := pgsWeak pgs_nil sem_gsN
theorem gsc (h1 : PG X e (tSemG X.K P g)) (h2 : PGs X es (tSemGs X.K P gs))
    (hs : (assignEach (e :: es) X.env).map (·.2) = assign e X.env :: (assignEach es X.env).map (·.2) := by rfl) : PGs X (e :: es) (tSemGs X.K P (gsC g gs)) := pgsWeak (pgs_cons h1 h2 hs) sem_gsC
theorem gt {k n : Nat} (hc : X.calm = true) (h : PGs X es (tSemGs X.K P gs)) (hn : (assignEach es X.env).length = n := by rfl) (hst : (assignEach es X.env).findIdx? (·.1) = none := by rfl) : PG X (.Tuple es k pos) (tSemG X.K P (gT n gs)) :=
  pgWeak (pg_tup hc h hn hst) sem_gT
end
/-- a, b = a tuple; the targets take values for good -/
def dAsg (g : DG) (f : M Rs) : DS := fun ρ => match bd f frz ρ with
  | .bad => .bad
  | .ok d ρ1 => match g d ρ1 with
    | some ρ2 => .nx ρ2
    | none => .bad
/-- a, b = x, y -/
def setQ (i : Nat) (r : Rs) : List Sl → Option (List Sl) := fun ρ => if i < ρ.length then match r with
    | .fz d => some (ρ.set i (.fz d))
    | .ow d => some (ρ.set i (.ow d))
    | .nm _ => none
  else none
def setQs : List Nat → List Rs → List Sl → Option (List Sl)
  | [], [], ρ => some ρ
  | i :: is, r :: rs, ρ => match setQ i r ρ with
    | some ρ' => setQs is rs ρ'
    | none => none
  | _, _, _ => none
def dPar (is : List Nat) (f : M (List Rs)) : DS := fun ρ => match bd f (argSA (is.map fun _ => false)) ρ with
  | .ok rs ρ2 => match setQs is rs ρ2 with
      | some ρ3 => .nx ρ3
      | none => .bad
  | .bad => .bad
def setVs : List Nat → List V → SS → SS
  | i :: is, v :: vs, σ => setVs is vs (σ.set i (some v))
  | _, _, σ => σ
theorem setQs_ok {F₀ H₀ : Hp} {σ₀ : SS} {ρ₀ : List Sl} : ∀ {is : List Nat} {vs : List V} {rs : List Rs} {σ : SS} {ρ ρ' : List Sl}, (∀ i ∈ is, ¬ P i) → Ext K F₀ H₀ σ₀ ρ₀ F H σ ρ → RsA K H₀ F H σ ρ vs rs → setQs is rs ρ = some ρ' →
    vs.length = is.length ∧ Ext K F₀ H₀ σ₀ ρ₀ F H (setVs is vs σ) ρ' ∧ Prot P σ (setVs is vs σ)
  | [], [], [], σ, ρ, ρ', _, x, h, e => by cases e; exact ⟨rfl, x, Prot.refl⟩
  | [], _, _ :: _, _, _, _, _, _, h, e => by cases e
  | _ :: _, _, [], _, _, _, _, _, h, e => by cases e
  | _, [], _ :: _, _, _, _, _, _, h, e => by have := h.len; simp at this
  | _, _ :: _, [], _, _, _, _, _, h, e => by have := h.len; simp at this
  | i :: is, v :: vs, r :: rs, σ, ρ, ρ', hP, x, h, e => by
    unfold setQs at e
    cases e1 : setQ i r ρ with
    | none => simp only [e1] at e; cases e
    | some ρ1 =>
      simp only [e1] at e
      have hd : ∃ ρ1', ρ1' = ρ1 ∧ Ext K F₀ H₀ σ₀ ρ₀ F H (σ.set i (some v)) ρ1 ∧ ∀ j b, HdAt (σ.set i (some v)) ρ1 j b → HdAt σ ρ j b ∨ ∃ d, r = .ow d ∧ v = .ref b := by
        refine ⟨ρ1, rfl, ?_⟩
        unfold setQ at e1
        split at e1
        case isFalse => cases e1
        case isTrue hi =>
          have hiσ : i < σ.length := by rw [x.st.len]; exact hi
          have q := h.tail.1
          cases r with
          | nm k => cases e1
          | fz d =>
            cases e1
            refine ⟨x.setSlot hi (.inl ⟨d, rfl, q⟩), fun j b z => .inl ?_⟩
            by_cases hj : i = j
            · subst hj
              rcases z with ⟨_, d', z⟩ | ⟨_, d', z⟩ <;> rw [List.getElem?_set_self hi] at z <;> cases z
            · rcases z with ⟨e, d', z⟩ | ⟨e, d', z⟩
              · rw [List.getElem?_set_ne hj] at e z; exact .inl ⟨e, d', z⟩
              · rw [List.getElem?_set_ne hj] at e z; exact .inr ⟨e, d', z⟩
          | ow d =>
            cases e1
            obtain ⟨a, h1, h2, h3, h4, h5⟩ := q
            refine ⟨x.setSlot hi (.inr ⟨d, a, rfl, h1, h2, h3, h4, h5⟩), fun j b z => ?_⟩
            by_cases hj : i = j
            · subst hj
              have eb : v = .ref b := by
                rcases z with ⟨e, d', z⟩ | ⟨e, d', z⟩ <;> rw [List.getElem?_set_self hiσ] at e <;> cases e <;> rfl
              exact .inr ⟨d, rfl, eb⟩
            · rcases z with ⟨e, d', z⟩ | ⟨e, d', z⟩
              · rw [List.getElem?_set_ne hj] at e z; exact .inl (.inl ⟨e, d', z⟩)
              · rw [List.getElem?_set_ne hj] at e z; exact .inl (.inr ⟨e, d', z⟩)
      obtain ⟨_, _, x1, hb⟩ := hd
      have h' : RsA K H₀ F H (σ.set i (some v)) ρ1 vs (rs.map fun r => match r with | .nm _ => .fz .none | r => r) → True := fun _ => trivial
      have h1 : (∀ r ∈ rs, ∀ k, r ≠ .nm k) := by
        have : ∀ {is : List Nat} {rs : List Rs} {ρ ρ' : List Sl}, setQs is rs ρ = some ρ' → ∀ r ∈ rs, ∀ k, r ≠ .nm k := by
          intro is rs
          induction rs generalizing is with
          | nil => intro _ _ _ r hr; cases hr
          | cons r rs ih =>
            intro ρ ρ' e r' hr k z
            cases is with
            | nil => cases e
            | cons i is =>
              unfold setQs at e
              cases e1 : setQ i r ρ with
              | none => simp only [e1] at e; cases e
              | some ρ1 =>
                simp only [e1] at e
                rcases List.mem_cons.mp hr with y | y
                · subst y; subst z
                  unfold setQ at e1
                  split at e1 <;> cases e1
                · exact ih e r' y k z
        exact this e
      have h2 : RsA K H₀ F H (σ.set i (some v)) ρ1 vs rs := ⟨h.tail.2.len, fun j w s g1 g2 => ?_, h.tail.2.dj⟩
      · obtain ⟨l, x2, p⟩ := setQs_ok (fun j hj => hP j (List.mem_cons_of_mem _ hj)) x1 h2 e
        exact ⟨by rw [List.length_cons, List.length_cons, l], x2, (prot_set (hP i List.mem_cons_self)).trans p⟩
      · have q := h.tail.2.at_ j w s g1 g2
        cases s with
        | fz d => exact q
        | nm k => exact (h1 _ (List.mem_of_getElem? g2) k rfl).elim
        | ow d =>
          obtain ⟨a, q1, q2, q3, q4, q5⟩ := q
          refine ⟨a, q1, q2, q3, q4, fun k z => ?_⟩
          rcases hb k a z with y | ⟨d', y1, y2⟩
          · exact q5 k y
          · have := h.dj 0 (j + 1) a d' d (by rw [y2]; rfl) (by rw [y1]; rfl) (by rw [← q1]; simpa using g1) (by simpa using g2)
            omega
theorem sem_par {i j : Nat} {f : M (List Rs)} (hi : ¬ P i) (hj : ¬ P j) : ∀ D σ H, tSemS K P (dPar [i, j] f) D σ H → tPar i j (tSemA K f) D σ H := fun D σ H ⟨F, ρ, s, h⟩ => by
  unfold dPar at h
  cases e : bd f (argSA ([i, j].map fun _ => false)) ρ with
  | bad => rw [e] at h; exact h.elim
  | ok rs ρ1 =>
    rw [e] at h
    cases e2 : setQs [i, j] rs ρ1 with
    | none => simp only [e2] at h; exact h.elim
    | some ρ2 =>
      simp only [e2] at h
      obtain ⟨r, ρ3, e3, e4⟩ := bd_ok e
      refine ⟨F, ρ, r, ρ3, s, e3, fun F' H' vs x q => ?_⟩
      obtain ⟨F2, x2, q2, _⟩ := argSA_ok x q e4
      obtain ⟨l, x3, p⟩ := setQs_ok (P := P) (fun k hk => by
        rcases List.mem_cons.mp hk with z | z
        · rw [z]; exact hi
        · rw [List.mem_singleton.mp z]; exact hj) x2 q2 e2
      match vs, l with
      | [v, w], _ => exact ⟨v, w, rfl, h F2 H' _ x3 p⟩
section
variable {X : Cx} {e : Expr} {f : M Rs} {pos : Pos}
theorem sset {i : Nat} {x : Str} {pos' : Pos} (hP : ¬ P i) (hN : X.N.Nodup) (hi : X.N[i]? = some x) (hx : Loc X.env.scope x) (he : PE X e (tSem X.K f)) (hs : swapsWith e (some (.Name x pos')) pos.line X.env = pure false := by rfl)
    (hf : X.fn x = true ∨ X.env.scope.names.lookup x = some .local := by first | exact .inl rfl | exact .inr rfl | assumption) : PS X (.Assign [.Name x pos'] e pos) (tSemS X.K P (dSet i f)) := psWeak (ps_set hN hi hx he hs hf) (sem_set hP)
theorem spar {i j : Nat} {x y : Str} {a b : Expr} {fa : M (List Rs)} {px py pt : Pos} {kt k2 pt2} (h1 : ¬ P i) (h2 : ¬ P j) (hc : X.calm = true) (hN : X.N.Nodup) (hi : X.N[i]? = some x) (hj : X.N[j]? = some y) (hij : i ≠ j)
    (hx : X.env.scope.names.lookup x = some .local) (hy : X.env.scope.names.lookup y = some .local) (ha : PA X [a, b] (tSemA X.K fa))
    (hw : swappedStores [.Tuple [.Name x px, .Name y py] kt pt] (.Tuple [a, b] k2 pt2) X.env = pure (some [x, y]) := by rfl)
    (hs : swapsWithSole [.Tuple [.Name x px, .Name y py] kt pt] (.Tuple [a, b] k2 pt2) pos.line X.env = pure false := by rfl) :
    PS X (.Assign [.Tuple [.Name x px, .Name y py] kt pt] (.Tuple [a, b] k2 pt2) pos) (tSemS X.K P (dPar [i, j] fa)) := psWeak (ps_par hc hN hi hj hij hx hy ha hw hs) (sem_par h1 h2)
end
end
end
end DL
namespace DL
open PySem PySem.Spec PyProof.Rows L2
section
variable {K : PySem.W.Frag} {F H F' H' : Hp} {σ σ' : SS} {ρ ρ' : List Sl}
/-! ### what is walked -/
/-- the iterator J yields the items ds, from heaps that hold what F0 and N hold -/
def ItOk (K : PySem.W.Frag) (F0 N : Hp) (J : It) (ds : List D) : Prop := ∀ (i : Nat) (F H : Hp), Same F0 F → Same F H → Same N H →
  (∀ d, ds[i]? = some d → J.go i H ∧ ∀ x H', J.yld i H x H' → ∃ F', Grow F H F' H' ∧ Rp K F' x d) ∧ (ds.length = i → J.stop i H)
abbrev Wk := List D × Option Nat
def unl (l : Option Nat) (ρ : List Sl) : List Sl := match l with
  | none => ρ
  | some i => match ρ[i]? with
    | some (.lk d) => ρ.set i (.ow d)
    | _ => ρ
/-- a lock may be opened again -/
def UnlOk (H : Hp) (σ : SS) (ρ ρ' : List Sl) (l : Option Nat) : Prop := ∀ i, l = some i → (∃ a, LkAt σ ρ' i a) ∧ ∀ b, LkAt σ ρ' i b → OwAt σ ρ i b ∨ H b = none
def tSemI (K : PySem.W.Frag) (w : M Wk) : TI := fun σ H R => ∃ F ρ ds l ρ', Sta K F H σ ρ ∧ w ρ = .ok (ds, l) ρ' ∧ ∀ F' H' N J, Ext K F H σ ρ F' H' σ ρ' → UnlOk H σ ρ ρ' l → Same N H' → (∀ b, N b ≠ none → ∀ i, ¬ OwAt σ ρ' i b) → ItOk K F' N J ds → R J H'
theorem piWeak {X : Cx} {tg e : Expr} {t t' : TI} (h : PI X tg e t) (w : ∀ σ H Q, t' σ H Q → t σ H Q) : PI X tg e t' :=
  ⟨fun pins s σ H Q I q => h.run pins s σ H Q I (w σ H Q q)⟩
/-- a list, a tuple or a text -/
def iSeq (K : PySem.W.Frag) (tl : TE) : TI := fun σ H R => tl σ H fun x H1 => (∃ a xs, x = .ref a ∧ SqL K H1 a xs ∧ R (Itl K a) H1) ∨ (∃ a xs, x = .ref a ∧ SqT K H1 a xs ∧ R (Itt K a) H1) ∨ (∃ z, x = .str z ∧ R (Its z) H1)
theorem pi_seq {X : Cx} {tg l : Expr} {tl : TE} (hl : PE X l tl) : PI X tg l (iSeq X.K tl) := by
  refine ⟨fun pins s σ H R I h => ?_⟩
  refine thn (hl.run pins s σ H _ I h) fun v s1 ⟨x, H1, I1, r1, q1⟩ => ?_
  rcases q1 with ⟨a, xs, e, hq, q⟩ | ⟨a, xs, e, hq, q⟩ | ⟨z, e, q⟩
  · have h2 : PE X l (fun _ H Q => Q x H) → True := fun _ => trivial
    subst e
    cases r1
    obtain ⟨its, rv, p, hz⟩ := I1.list hq
    refine wpAny_pyIter_list p.isList ?_
    refine ⟨s1.heap.objs.size, [s1.heap.objs.size], _, _, H1, rfl, I1.kept (t' := s1.toks) fun b o e => Heap.get?_push_of_some _ e, turn_list a _, ⟨_, Heap.get?_push_size _ rfl, rfl, rfl⟩, fun b hb => ?_, q⟩
    have e : b = s1.heap.objs.size := by simpa using hb
    subst e
    exact I1.fpOk (Nat.le_refl _) (I1.hok.fresh (Nat.le_refl _))
  · subst e
    cases r1
    obtain ⟨its, rv, p, hz⟩ := I1.tuple hq
    refine wpAny_pyIter_tuple (show s1.heap.IsTuple a its.toArray from p) ?_
    refine ⟨s1.heap.objs.size, [s1.heap.objs.size], _, _, H1, rfl, I1.kept (t' := s1.toks) fun b o e => Heap.get?_push_of_some _ e, turn_tuple a _, ⟨_, Heap.get?_push_size _ rfl, rfl, rfl⟩, fun b hb => ?_, q⟩
    have e : b = s1.heap.objs.size := by simpa using hb
    subst e
    exact I1.fpOk (Nat.le_refl _) (I1.hok.fresh (Nat.le_refl _))
  · subst e
    obtain ⟨t, rfl⟩ := r1
    exact strIter I1 q
where
  strIter {X : Cx} {tg : Expr} {pins : List (Addr × Obj)} {σ : SS} {H1 : Hp} {s1 : Shared} {z : Str} {t : Tok} {R : It → Hp → Prop} (I1 : Inv X pins σ H1 s1) (q : R (Its z) H1) :
      wpAny (model X.prog X.w) X.A (pyIter (.str z t)) (PIE X pins σ tg R) X.xe s1 := by
    cases ha : z.cps.all (· < 128)
    · exact wpAny_pyIter_wide ha (pi_one (tk := s1.toks) I1 _ (turn_str _ z t "str_iterator" (.inr rfl)) ⟨_, Heap.get?_push_size _ rfl, rfl, rfl⟩ q)
    · exact wpAny_pyIter_ascii ha (pi_one (tk := s1.toks) I1 _ (turn_str _ z t "str_ascii_iterator" (.inl rfl)) ⟨_, Heap.get?_push_size _ rfl, rfl, rfl⟩ q)
def seqItems : D → Option (List D)
  | .list ds => some ds
  | .tuple ds => some ds
  | .str x => some (x.cps.toList.map fun c => .str ⟨#[c]⟩)
  | _ => none
def wkOf (l : Option Nat) (d : D) : M Wk := opt ((seqItems d).map fun ds => (ds, l))
def dWk (f : M Rs) : M Wk := bd f fun r => match r with
  | .fz d => wkOf none d
  | .ow d => wkOf none d
  | .nm i => fun ρ => match ρ[i]? with
    | some (.fz d) => wkOf none d ρ
    | some (.ow d) => wkOf (some i) d (ρ.set i (.lk d))
    | some (.lk d) => wkOf none d ρ
    | _ => .bad
theorem itok_list {F0 N : Hp} {a : Addr} {vs : List V} {ds : List D} (h : ∀ F H, Same F0 F → Same F H → Same N H → SqL K H a vs) (r : RpA K F0 vs ds) : ItOk K F0 N (Itl K a) ds := fun i F H s1 s2 s3 => by
  have q := h F H s1 s2 s3
  refine ⟨fun d hd => ?_, fun hi => ⟨vs, q, by rw [r.length]; exact Nat.le_of_eq hi⟩⟩
  have hi : i < vs.length := by rw [r.length]; exact (List.getElem?_eq_some_iff.mp hd).1
  refine ⟨⟨vs, vs[i], q, List.getElem?_eq_getElem hi⟩, fun x H' y => ?_⟩
  obtain ⟨e, y⟩ := y
  subst e
  exact ⟨F, Grow.refl s2, (r.get (y vs q) hd).mono s1⟩
theorem itok_tup {F0 N : Hp} {a : Addr} {vs : List V} {ds : List D} (h : ∀ F H, Same F0 F → Same F H → Same N H → SqT K H a vs) (r : RpA K F0 vs ds) : ItOk K F0 N (Itt K a) ds := fun i F H s1 s2 s3 => by
  have q := h F H s1 s2 s3
  refine ⟨fun d hd => ?_, fun hi => ⟨vs, q, by rw [r.length]; exact Nat.le_of_eq hi⟩⟩
  have hi : i < vs.length := by rw [r.length]; exact (List.getElem?_eq_some_iff.mp hd).1
  refine ⟨⟨vs, vs[i], q, List.getElem?_eq_getElem hi⟩, fun x H' y => ?_⟩
  obtain ⟨e, y⟩ := y
  subst e
  exact ⟨F, Grow.refl s2, (r.get (y vs q) hd).mono s1⟩
theorem itok_str {F0 N : Hp} {z : Str} : ItOk K F0 N (Its z) (z.cps.toList.map fun c => .str ⟨#[c]⟩) := fun i F H s1 s2 s3 => by
  refine ⟨fun d hd => ?_, fun hi => by show z.cps.size ≤ i; simp at hi; omega⟩
  rw [List.getElem?_map] at hd
  cases e : z.cps.toList[i]? with
  | none => rw [e] at hd; cases hd
  | some c =>
    rw [e] at hd
    cases hd
    have hi : i < z.cps.size := by
      have := (List.getElem?_eq_some_iff.mp e).1
      simpa using this
    refine ⟨hi, fun x H' y => ?_⟩
    obtain ⟨e1, c', e2, e3⟩ := y
    subst e1; subst e3
    have : z.cps[i]? = some c := by rw [← Array.getElem?_toList]; exact e
    rw [this] at e2; cases e2
    exact ⟨F, Grow.refl s2, .str _⟩
theorem Ext.lock {F₀ H₀ : Hp} {σ₀ : SS} {ρ₀ : List Sl} {i : Nat} {d : D} (x : Ext K F₀ H₀ σ₀ ρ₀ F H σ ρ) (hρ : ρ[i]? = some (.ow d)) : Ext K F₀ H₀ σ₀ ρ₀ F H σ (ρ.set i (.lk d)) := by
  have hi : i < ρ.length := (List.getElem?_eq_some_iff.mp hρ).1
  have owB : ∀ j b, OwAt σ (ρ.set i (.lk d)) j b → OwAt σ ρ j b := fun j b ⟨e, d', q⟩ => by
    by_cases hj : i = j
    · subst hj; rw [List.getElem?_set_self hi] at q; cases q
    · rw [List.getElem?_set_ne hj] at q; exact ⟨e, d', q⟩
  have lkB : ∀ j b, LkAt σ (ρ.set i (.lk d)) j b → HdAt σ ρ j b := fun j b ⟨e, d', q⟩ => by
    by_cases hj : i = j
    · subst hj; exact .inl ⟨e, d, hρ⟩
    · rw [List.getElem?_set_ne hj] at q; exact .inr ⟨e, d', q⟩
  have hdB : ∀ j b, HdAt σ (ρ.set i (.lk d)) j b → HdAt σ ρ j b := fun j b q => q.elim (fun z => .inl (owB j b z)) (lkB j b)
  refine ⟨⟨x.st.le, by rw [List.length_set]; exact x.st.len, fun j s q => ?_, fun j k b h1 h2 => x.st.dj j k b (hdB j b h1) (hdB k b h2)⟩, x.fr, x.kp, x.nf, x.gr, fun j b q => x.ow j b (owB j b q), fun j b q => x.hd (lkB j b q)⟩
  by_cases hj : i = j
  · subst hj
    rw [List.getElem?_set_self hi] at q; cases q
    have z := x.st.sl i _ hρ
    exact z
  · rw [List.getElem?_set_ne hj] at q; exact x.st.sl j s q
theorem unlNone {H : Hp} : UnlOk H σ ρ ρ' none := fun _ e => nomatch e
theorem sem_wk {f : M Rs} : ∀ σ H R, tSemI K (dWk f) σ H R → iSeq K (tSem K f) σ H R := fun σ H R ⟨F, ρ, ds, l, ρ', s, e, k⟩ => by
  obtain ⟨r, ρ1, e1, e⟩ := bd_ok e
  refine ⟨F, ρ, r, ρ1, s, e1, fun F1 H1 v x1 q1 => ?_⟩
  -- a value for good
  have good : ∀ (F2 : Hp) (d : D), Ext K F H σ ρ F2 H1 σ ρ1 → Rp K F2 v d → wkOf none d ρ1 = .ok (ds, l) ρ' →
      (∃ a xs, v = .ref a ∧ SqL K H1 a xs ∧ R (Itl K a) H1) ∨ (∃ a xs, v = .ref a ∧ SqT K H1 a xs ∧ R (Itt K a) H1) ∨ (∃ z, v = .str z ∧ R (Its z) H1) := fun F2 d x2 rp e => by
    obtain ⟨e2, e3⟩ := opt_ok e
    subst e3
    have fin : ∀ J, l = none → ItOk K F2 F2 J ds → R J H1 := fun J hl it => k F2 H1 F2 J x2 (hl ▸ unlNone) x2.st.le (fun b nb i z => nb (x2.st.held (.inl z)).1) it
    cases d with
    | list ds' =>
      cases e2
      cases rp with
      | lst hq ra => exact .inl ⟨_, _, rfl, .inl (rd_mono x2.st.le hq), fin _ rfl (itok_list (fun F' H' g1 g2 g3 => .inl (rd_mono g3 hq)) ra)⟩
    | tuple ds' =>
      cases e2
      cases rp with
      | tup hq ra => exact .inr (.inl ⟨_, _, rfl, sqT_mono x2.st.le hq, fin _ rfl (itok_tup (fun F' H' g1 g2 g3 => sqT_mono g3 hq) ra)⟩)
    | str z =>
      cases e2
      cases rp
      exact .inr (.inr ⟨z, rfl, fin _ rfl itok_str⟩)
    | _ => cases e2
  -- a list that slot i holds, locked
  have held : ∀ (i : Nat) (a : Addr) (d : D) (ρ2 : List Sl), v = .ref a → F1 a = none → Ob K F1 H1 a d → Ext K F H σ ρ F1 H1 σ ρ2 → (∀ j, ¬ OwAt σ ρ2 j a) → UnlOk H σ ρ ρ2 l → wkOf l d ρ2 = .ok (ds, l) ρ' →
      (∃ a xs, v = .ref a ∧ SqL K H1 a xs ∧ R (Itl K a) H1) ∨ (∃ a xs, v = .ref a ∧ SqT K H1 a xs ∧ R (Itt K a) H1) ∨ (∃ z, v = .str z ∧ R (Its z) H1) := fun i a d ρ2 hv hf ho x2 hno hu e => by
    obtain ⟨e2, e3⟩ := opt_ok e
    subst e3
    cases d with
    | list ds' =>
      cases e2
      obtain ⟨vs, eo, ra⟩ := ho
      refine .inl ⟨a, vs, hv, .inl (.inl eo), k F1 H1 (upd F1 a (.lst vs)) _ x2 hu (same_upd_le x2.st.le eo) (fun b nb j z => ?_) (itok_list (fun F' H' g1 g2 g3 => .inl (.inl (g3 _ _ upd_same))) ra)⟩
      by_cases hb : b = a
      · subst hb; exact hno j z
      · rw [upd_ne hb] at nb; exact nb (x2.st.held (.inl z)).1
    | dict _ => cases e2
    | _ => exact ho.elim
  cases r with
  | fz d => exact good F1 d x1 q1 e
  | ow d =>
    obtain ⟨a, e2, h0, hf, ho, hn⟩ := q1
    obtain ⟨F2, x2, rp, _⟩ := x1.freezeNew h0 hf ho hn
    subst e2
    exact good F2 d x2 rp e
  | nm i =>
    have q1 : σ[i]? = some (some v) := q1
    simp only at e
    cases q : ρ1[i]? with
    | none => rw [q] at e; cases e
    | some sl =>
      rw [q] at e
      have z := x1.st.sl i sl q
      cases sl with
      | em => cases e
      | fz d =>
        obtain ⟨w, w1, w2⟩ := z
        rw [q1] at w1; cases w1
        exact good F1 d x1 w2 e
      | ow d =>
        obtain ⟨a, w1, w2, w3⟩ := z
        rw [q1] at w1; cases w1
        have hi : i < ρ1.length := (List.getElem?_eq_some_iff.mp q).1
        have hl : l = some i := by
          have := (opt_ok e).1
          cases y : seqItems d with
          | none => rw [y] at this; cases this
          | some _ => rw [y] at this; cases this; rfl
        subst hl
        refine held i a d (ρ1.set i (.lk d)) rfl w2 w3 (x1.lock q) (fun j z => ?_) (fun j ej => ?_) e
        · obtain ⟨y, d', y2⟩ := z
          by_cases hj : i = j
          · subst hj; rw [List.getElem?_set_self hi] at y2; cases y2
          · rw [List.getElem?_set_ne hj] at y2
            exact hj (x1.st.dj i j a (.inl ⟨q1, d, q⟩) (.inl ⟨y, d', y2⟩))
        · cases ej
          exact ⟨⟨a, q1, d, List.getElem?_set_self hi⟩, fun b z => x1.ow i b ⟨z.1, d, q⟩⟩
      | lk d =>
        obtain ⟨a, w1, w2, w3⟩ := z
        rw [q1] at w1; cases w1
        have hl : l = none := by
          have := (opt_ok e).1
          cases y : seqItems d with
          | none => rw [y] at this; cases this
          | some _ => rw [y] at this; cases this; rfl
        subst hl
        refine held i a d ρ1 rfl w2 w3 x1 (fun j z => ?_) unlNone e
        have ej := x1.st.dj i j a (.inr ⟨q1, d, q⟩) (.inl z)
        subst ej
        obtain ⟨_, d', y2⟩ := z
        rw [q] at y2; cases y2
theorem iw {X : Cx} {tg e : Expr} {f : M Rs} (h : PE X e (tSem X.K f)) : PI X tg e (tSemI X.K (dWk f)) := piWeak (pi_seq h) sem_wk
/-! ### for -/
def unlS (l : Option Nat) : SR → SR
  | .nx ρ => .nx (unl l ρ)
  | .rt r ρ => .rt r (unl l ρ)
  | _ => .bad
def forGo (g : DG) (body : DS) : List D → DS
  | [], ρ => .nx ρ
  | d :: ds, ρ => match g d ρ with
    | none => .bad
    | some ρ1 => match body ρ1 with
      | .nx ρ2 => forGo g body ds ρ2
      | .ct ρ2 => forGo g body ds ρ2
      | .bk ρ2 => .nx ρ2
      | .rt r ρ2 => .rt r ρ2
      | .bad => .bad
def dFor (w : M Wk) (g : DG) (body : DS) : DS := fun ρ => match w ρ with
  | .bad => .bad
  | .ok (ds, l) ρ1 => unlS l (forGo g body ds ρ1)
theorem unl_len (l : Option Nat) (ρ : List Sl) : (unl l ρ).length = ρ.length := by
  unfold unl
  split
  · rfl
  · split
    · rw [List.length_set]
    · rfl
theorem unl_at {l : Option Nat} {j : Nat} : (unl l ρ)[j]? = ρ[j]? ∨ ∃ d, l = some j ∧ ρ[j]? = some (.lk d) ∧ (unl l ρ)[j]? = some (.ow d) := by
  unfold unl
  split
  · exact .inl rfl
  · rename_i i
    split
    · rename_i d e
      by_cases hj : i = j
      · subst hj
        exact .inr ⟨d, rfl, e, by rw [List.getElem?_set_self (List.getElem?_eq_some_iff.mp e).1]⟩
      · exact .inl (List.getElem?_set_ne hj)
    · exact .inl rfl
theorem unl_hd {l : Option Nat} {j : Nat} {b : Addr} (h : HdAt σ (unl l ρ) j b) : HdAt σ ρ j b := by
  rcases unl_at (ρ := ρ) (l := l) (j := j) with e | ⟨d, _, e1, e2⟩
  · unfold HdAt OwAt LkAt at h ⊢
    rw [e] at h; exact h
  · rcases h with ⟨h, _⟩ | ⟨h, _⟩ <;> exact .inr ⟨h, d, e1⟩
/-- behind a loop the lock is opened -/
theorem Ext.unlock {F₀ H₀ : Hp} {σ₀ : SS} {ρ₀ ρ₁ : List Sl} {F₁ H₁ : Hp} {l : Option Nat} (x0 : Ext K F₀ H₀ σ₀ ρ₀ F₁ H₁ σ₀ ρ₁) (hu : UnlOk H₀ σ₀ ρ₀ ρ₁ l) (x : Ext K F₁ H₁ σ₀ ρ₁ F H σ ρ) :
    Ext K F₀ H₀ σ₀ ρ₀ F H σ (unl l ρ) := by
  have y := x0.trans x
  have owB : ∀ j b, OwAt σ (unl l ρ) j b → OwAt σ ρ j b ∨ (l = some j ∧ LkAt σ ρ j b) := fun j b ⟨e, d, q⟩ => by
    rcases unl_at (ρ := ρ) (l := l) (j := j) with z | ⟨d', z0, z1, z2⟩
    · rw [z] at q; exact .inl ⟨e, d, q⟩
    · exact .inr ⟨z0, e, d', z1⟩
  have lkB : ∀ j b, LkAt σ (unl l ρ) j b → LkAt σ ρ j b := fun j b ⟨e, d, q⟩ => by
    rcases unl_at (ρ := ρ) (l := l) (j := j) with z | ⟨d', z0, z1, z2⟩
    · rw [z] at q; exact ⟨e, d, q⟩
    · rw [z2] at q; cases q
  refine ⟨⟨y.st.le, by rw [unl_len]; exact y.st.len, fun j s q => ?_, fun j k b h1 h2 => y.st.dj j k b (unl_hd h1) (unl_hd h2)⟩, y.fr, y.kp, y.nf, y.gr, fun j b q => ?_, fun j b q => y.lk j b (lkB j b q)⟩
  · rcases unl_at (ρ := ρ) (l := l) (j := j) with z | ⟨d', z0, z1, z2⟩
    · rw [z] at q; exact y.st.sl j s q
    · rw [z2] at q; cases q
      have w := y.st.sl j _ z1
      exact w
  · rcases owB j b q with z | ⟨hl, z⟩
    · exact y.ow j b z
    · -- it was locked through the loop
      obtain ⟨⟨a, ha⟩, hu'⟩ := hu j hl
      rcases x.lk j b z with w | w
      · have : LkAt σ₀ ρ₁ j b := by
          rcases w with ⟨_, d, w⟩ | w
          · obtain ⟨_, d', w'⟩ := ha
            rw [w] at w'; cases w'
          · exact w
        exact hu' b this
      · exact .inr (x0.back w)
theorem forGo_drop {g : DG} {body : DS} {ds : List D} {i : Nat} {d : D} (h : ds[i]? = some d) : forGo g body (ds.drop i) = forGo g body (d :: ds.drop (i + 1)) := by
  have hi := (List.getElem?_eq_some_iff.mp h).1
  rw [List.drop_eq_getElem_cons hi]
  have : ds[i] = d := (List.getElem?_eq_some_iff.mp h).2
  rw [this]
theorem sem_for {P : Nat → Prop} {w : M Wk} {g : DG} {body : DS} : ∀ D σ H, tSemS K P (dFor w g body) D σ H → tFor (tSemI K w) (tSemG K P g) (tSemS K P body) D σ H := fun D σ H ⟨F, ρ, s, h⟩ => by
  unfold dFor at h
  cases e : w ρ with
  | bad => rw [e] at h; exact h.elim
  | ok a ρ1 =>
    obtain ⟨ds, l⟩ := a
    rw [e] at h
    refine ⟨F, ρ, ds, l, ρ1, s, e, fun F1 H1 N J x1 hu sN hN it => ?_⟩
    simp only at h
    generalize hres : forGo g body ds ρ1 = res at h
    -- what the end asks
    have fin_nx : ∀ F' H' σ' ρ', res = .nx ρ' → Ext K F1 H1 σ ρ1 F' H' σ' ρ' → Prot P σ σ' → D.nx σ' H' := fun F' H' σ' ρ' er x p => by
      subst er
      exact h F' H' σ' (x1.unlock hu x) p
    have fin_rt : ∀ F' H' σ' ρ' r v, res = .rt r ρ' → Ext K F1 H1 σ ρ1 F' H' σ' ρ' → Prot P σ σ' → RsR K H F' H' σ' ρ' v r → D.rt v H' := fun F' H' σ' ρ' r v er x p q => by
      subst er
      refine h F' H' σ' v (x1.unlock hu x) p ?_
      cases r with
      | fz d => exact q
      | nm i => exact q
      | ow d =>
        obtain ⟨a, q1, q2, q3, q4, q5⟩ := q
        exact ⟨a, q1, q2, q3, q4, fun i z => q5 i (unl_hd z)⟩
    have fin_no : res = .bad → False := fun er => by subst er; exact h
    refine ⟨fun i m σ' H' => m = ds.length - i ∧ i ≤ ds.length ∧ ∃ F' ρ', Ext K F1 H1 σ ρ1 F' H' σ' ρ' ∧ Prot P σ σ' ∧ forGo g body (ds.drop i) ρ' = res, ⟨ds.length, by simp, Nat.zero_le _, F1, ρ1, Ext.refl x1.st, Prot.refl, by simpa using hres⟩, ?_⟩
    rintro i m σ' H' ⟨rfl, hi, F', ρ', x, p, er⟩
    have sN' : Same N H' := fun b o eb => x.kp b o (sN b o eb) (hN b (by rw [eb]; exact fun z => nomatch z))
    obtain ⟨itg, its⟩ := it i F' H' x.fr x.st.le sN'
    by_cases hlt : i < ds.length
    · have hd : ds[i]? = some ds[i] := List.getElem?_eq_getElem hlt
      obtain ⟨go, yl⟩ := itg _ hd
      rw [forGo_drop hd] at er
      refine .inr ⟨go, fun σ2 H2 => ∃ F2 ρ2, Ext K F1 H1 σ ρ1 F2 H2 σ2 ρ2 ∧ Prot P σ σ2 ∧ forGo g body (ds.drop (i + 1)) ρ2 = res, fun σ2 H2 q => ⟨ds.length - (i + 1), by omega, rfl, hlt, q⟩, fun v H2 y => ?_⟩
      obtain ⟨F2, gr, rp⟩ := yl v H2 y
      have x2 := x.trans (x.st.grow gr)
      unfold forGo at er
      cases eg : g ds[i] ρ' with
      | none => rw [eg] at er; exact (fin_no er.symm).elim
      | some ρ2 =>
        rw [eg] at er
        refine ⟨F2, ρ', ds[i], ρ2, x2.st, rp, eg, fun σ3 x3 p3 => ⟨F2, ρ2, x3.st, ?_⟩⟩
        have x4 := x2.trans x3
        have p4 := p.trans p3
        simp only at er
        cases eb : body ρ2 with
        | nx ρ5 => simp only [eb] at er; exact fun F5 H5 σ5 x5 p5 => ⟨F5, ρ5, x4.trans x5, p4.trans p5, er⟩
        | ct ρ5 => simp only [eb] at er; exact fun F5 H5 σ5 x5 p5 => ⟨F5, ρ5, x4.trans x5, p4.trans p5, er⟩
        | bk ρ5 => simp only [eb] at er; exact fun F5 H5 σ5 x5 p5 => fin_nx F5 H5 σ5 ρ5 er.symm (x4.trans x5) (p4.trans p5)
        | rt r ρ5 => simp only [eb] at er; exact fun F5 H5 σ5 v x5 p5 q => fin_rt F5 H5 σ5 ρ5 r v er.symm (x4.trans x5) (p4.trans p5) (q.base fun a z => x1.back (x4.back z))
        | bad => simp only [eb] at er; exact (fin_no er.symm).elim
    · have ei : i = ds.length := by omega
      subst ei
      rw [List.drop_length] at er
      exact .inl ⟨its rfl, fin_nx F' H' σ' ρ' er.symm x p⟩
/-! ### while -/
section
variable {X : Cx} {P : Nat → Prop} {pos : Pos} {f : DS} {w : M Wk} {g : DG} {tg iter : Expr} {body : List Stmt}
theorem sfor (hp : PassesOwn (model X.prog X.w) X.A X.env X.xe) (hc : X.calm = true) (hi : PI X tg iter (tSemI X.K w)) (hg : PG X tg (tSemG X.K P g)) (hb : PSs X body (tSemS X.K P f))
    (hs : ∀ x, foldedSetIterable iter X.env x = pure x := by intro _; rfl) : PS X (.For tg iter body [] pos) (tSemS X.K P (dFor w g f)) := psWeak (ps_for hp hc hi hg hb hs) sem_for
end
/-! ### ranges -/
def dRng1 (f : M (List Rs)) : M Wk := bd f fun rs => bd (lookA rs) fun ds => opt (match ds with
  | [.int j] => if -(2 ^ 62) ≤ j ∧ j < 2 ^ 62 then some ((List.range j.toNat).map fun k => .int (k : Nat), none) else none
  | _ => none)
def dRng2 (f : M (List Rs)) : M Wk := bd f fun rs => bd (lookA rs) fun ds => opt (match ds with
  | [.int i, .int j] => if -(2 ^ 62) ≤ i ∧ i < 2 ^ 62 ∧ -(2 ^ 62) ≤ j ∧ j < 2 ^ 62 then some ((List.range (j - i).toNat).map fun k => .int (i + (k : Nat)), none) else none
  | _ => none)
theorem itok_range {F0 N : Hp} {lo : Int} {n : Nat} : ItOk K F0 N (Itr lo n) ((List.range n).map fun k => .int (lo + (k : Nat))) := fun i F H s1 s2 s3 => by
  refine ⟨fun d hd => ?_, fun hi => by show n ≤ i; simp at hi; omega⟩
  rw [List.getElem?_map] at hd
  cases e : (List.range n)[i]? with
  | none => rw [e] at hd; cases hd
  | some c =>
    rw [e] at hd
    cases hd
    obtain ⟨h1, h2⟩ := List.getElem?_eq_some_iff.mp e
    have hi : i < n := by simpa using h1
    have : c = i := by simpa using h2.symm
    subst this
    refine ⟨hi, fun x H' y => ?_⟩
    obtain ⟨e1, e2⟩ := y
    subst e1; subst e2
    exact ⟨F, Grow.refl s2, .int _⟩
theorem VwA.one {v : List V} {d : D} (h : VwA K F H v [d]) : ∃ x, v = [x] ∧ Vw K F H x d := by
  match v, h with
  | [x], h => exact ⟨x, rfl, h.1⟩
theorem VwA.two {v : List V} {d e : D} (h : VwA K F H v [d, e]) : ∃ x y, v = [x, y] ∧ Vw K F H x d ∧ Vw K F H y e := by
  match v, h with
  | [x, y], h => exact ⟨x, y, rfl, h.1, h.2.1⟩
theorem sem_rng1 {f : M (List Rs)} : ∀ σ H R, tSemI K (dRng1 f) σ H R → iRng1 (tSemA K f) σ H R := fun σ H R ⟨F, ρ, ds, l, ρ', s, e, k⟩ => by
  obtain ⟨rs, ρ1, e1, e⟩ := bd_ok e
  obtain ⟨da, ρ2, e2, e⟩ := bd_ok e
  obtain ⟨e3, e4⟩ := opt_ok e
  subst e4
  refine ⟨F, ρ, rs, ρ1, s, e1, fun F1 H1 vs x1 q1 => ?_⟩
  obtain ⟨z, w⟩ := lookA_ok x1.st q1 e2
  subst z
  split at e3
  · rename_i j
    split at e3
    · rename_i hj
      cases e3
      obtain ⟨x, rfl, wx⟩ := w.one
      rw [wx.int]
      refine ⟨j, rfl, hj.1, hj.2, k F1 H1 F1 _ x1 unlNone x1.st.le (fun b nb i z => nb (x1.st.held (.inl z)).1) ?_⟩
      have := itok_range (K := K) (F0 := F1) (N := F1) (lo := 0) (n := j.toNat)
      simpa using this
    · cases e3
  · cases e3
theorem sem_rng2 {f : M (List Rs)} : ∀ σ H R, tSemI K (dRng2 f) σ H R → iRng2 (tSemA K f) σ H R := fun σ H R ⟨F, ρ, ds, l, ρ', s, e, k⟩ => by
  obtain ⟨rs, ρ1, e1, e⟩ := bd_ok e
  obtain ⟨da, ρ2, e2, e⟩ := bd_ok e
  obtain ⟨e3, e4⟩ := opt_ok e
  subst e4
  refine ⟨F, ρ, rs, ρ1, s, e1, fun F1 H1 vs x1 q1 => ?_⟩
  obtain ⟨z, w⟩ := lookA_ok x1.st q1 e2
  subst z
  split at e3
  · rename_i i j
    split at e3
    · rename_i hj
      cases e3
      obtain ⟨x, y, rfl, wx, wy⟩ := w.two
      rw [wx.int, wy.int]
      exact ⟨i, j, rfl, hj, k F1 H1 F1 _ x1 unlNone x1.st.le (fun b nb i z => nb (x1.st.held (.inl z)).1) itok_range⟩
    · cases e3
  · cases e3
section
variable {X : Cx} {tg : Expr}
theorem ir1 {a : Expr} {fa : M (List Rs)} {p pos : Pos} (hg : Gl X "range") (hm : X.mg "range" = none) (ha : PA X [a] (tSemA X.K fa)) (hs : starEach [a] X.env = [(false, eval a X.env)] := by rfl) : PI X tg (.Call (.Name "range" p) [a] [] pos) (tSemI X.K (dRng1 fa)) :=
  piWeak (pi_range1 hg hm ha hs) sem_rng1
theorem ir2 {a b : Expr} {fa : M (List Rs)} {p pos : Pos} (hg : Gl X "range") (hm : X.mg "range" = none) (ha : PA X [a, b] (tSemA X.K fa)) (hs : starEach [a, b] X.env = [(false, eval a X.env), (false, eval b X.env)] := by rfl) (hs2 : starEach [b] X.env = [(false, eval b X.env)] := by rfl) :
    PI X tg (.Call (.Name "range" p) [a, b] [] pos) (tSemI X.K (dRng2 fa)) := piWeak (pi_range2 hg hm ha hs hs2) sem_rng2
end
end
end DL
namespace DL
open PySem PySem.Spec PyProof.Rows L2
section
variable {K : PySem.W.Frag} {F H F' H' : Hp} {σ σ' : SS} {ρ ρ' : List Sl}
/-! ### list comprehensions -/
def wipeR (own : List Nat) (ρ : List Sl) : List Sl := match own with
  | [] => ρ
  | i :: is => (wipeR is ρ).set i .em
/-- the slots of own as they were in ρ -/
def restore (own : List Nat) (ρ ρ' : List Sl) : List Sl := match own with
  | [] => ρ'
  | i :: is => match ρ[i]? with
    | some s => (restore is ρ ρ').set i s
    | none => restore is ρ ρ'
theorem wipeR_len (ρ : List Sl) : ∀ own, (wipeR own ρ).length = ρ.length
  | [] => rfl
  | i :: is => by unfold wipeR; rw [List.length_set, wipeR_len ρ is]
theorem wipeR_in {i : Nat} (hi : i < ρ.length) : ∀ {own : List Nat}, i ∈ own → (wipeR own ρ)[i]? = some .em
  | [], h => by cases h
  | j :: js, h => by
    unfold wipeR
    by_cases hj : j = i
    · subst hj; rw [List.getElem?_set_self (by rw [wipeR_len]; exact hi)]
    · rw [List.getElem?_set_ne hj]
      exact wipeR_in hi ((List.mem_cons.mp h).resolve_left fun z => hj z.symm)
theorem wipeR_out {i : Nat} : ∀ {own : List Nat}, i ∉ own → (wipeR own ρ)[i]? = ρ[i]?
  | [], h => rfl
  | j :: js, h => by
    unfold wipeR
    have hj : j ≠ i := fun z => h (z ▸ List.mem_cons_self)
    rw [List.getElem?_set_ne hj]
    exact wipeR_out fun z => h (List.mem_cons_of_mem _ z)
theorem restore_len (hl : ρ'.length = ρ.length) : ∀ own, (restore own ρ ρ').length = ρ.length
  | [] => hl
  | i :: is => by
    unfold restore
    split
    · rw [List.length_set, restore_len hl is]
    · exact restore_len hl is
theorem restore_in {i : Nat} (hl : ρ'.length = ρ.length) (hi : i < ρ.length) : ∀ {own : List Nat}, i ∈ own → (restore own ρ ρ')[i]? = ρ[i]?
  | [], h => by cases h
  | j :: js, h => by
    unfold restore
    by_cases hj : j = i
    · subst hj
      rw [List.getElem?_eq_getElem hi]
      simp only
      rw [List.getElem?_set_self (by rw [restore_len hl]; exact hi)]
    · have := restore_in hl hi (own := js) ((List.mem_cons.mp h).resolve_left fun z => hj z.symm)
      split
      · rw [List.getElem?_set_ne hj]; exact this
      · exact this
theorem restore_out {i : Nat} : ∀ {own : List Nat}, i ∉ own → (restore own ρ ρ')[i]? = ρ'[i]?
  | [], h => rfl
  | j :: js, h => by
    unfold restore
    have hj : j ≠ i := fun z => h (z ▸ List.mem_cons_self)
    have := restore_out (own := js) fun z => h (List.mem_cons_of_mem _ z)
    split
    · rw [List.getElem?_set_ne hj]; exact this
    · exact this
theorem wipe_in {i : Nat} (hi : i < σ.length) : ∀ {own : List Nat}, i ∈ own → (wipe σ own)[i]? = some none
  | [], h => by cases h
  | j :: js, h => by
    unfold wipe
    by_cases hj : j = i
    · subst hj; rw [List.getElem?_set_self (by rw [wipe_length]; exact hi)]
    · rw [List.getElem?_set_ne hj]
      exact wipe_in hi ((List.mem_cons.mp h).resolve_left fun z => hj z.symm)
theorem wipe_out {i : Nat} : ∀ {own : List Nat}, i ∉ own → (wipe σ own)[i]? = σ[i]?
  | [], h => rfl
  | j :: js, h => by
    unfold wipe
    have hj : j ≠ i := fun z => h (z ▸ List.mem_cons_self)
    rw [List.getElem?_set_ne hj]
    exact wipe_out fun z => h (List.mem_cons_of_mem _ z)
theorem wipe_eq {own : List Nat} (hl : σ'.length = σ.length) (h : ∀ i, i ∉ own → σ'[i]? = σ[i]?) : wipe σ' own = wipe σ own := by
  refine List.ext_getElem? fun i => ?_
  by_cases hi : i ∈ own
  · by_cases hl' : i < σ.length
    · rw [wipe_in hl' hi, wipe_in (by omega) hi]
    · rw [List.getElem?_eq_none (by rw [wipe_length]; omega), List.getElem?_eq_none (by rw [wipe_length]; omega)]
  · rw [wipe_out hi, wipe_out hi, h i hi]
theorem wipe_wipe {own : List Nat} : wipe (wipe σ own) own = wipe σ own := wipe_eq (wipe_length _ _) fun i h => wipe_out h
section
variable {own : List Nat}
theorem wipe_hd (hl : σ.length = ρ.length) {σ1 : SS} (h1 : ∀ i, i ∉ own → σ1[i]? = σ[i]?) {i : Nat} {b : Addr} : HdAt σ1 (wipeR own ρ) i b → i ∉ own ∧ HdAt σ ρ i b := fun h => by
  have hno : i ∉ own := fun hi => by
    by_cases hi' : i < ρ.length
    · rcases h with ⟨_, d, q⟩ | ⟨_, d, q⟩ <;> rw [wipeR_in hi' hi] at q <;> cases q
    · rcases h with ⟨_, d, q⟩ | ⟨_, d, q⟩ <;> rw [List.getElem?_eq_none (by rw [wipeR_len]; omega)] at q <;> cases q
  refine ⟨hno, ?_⟩
  rcases h with ⟨e, d, q⟩ | ⟨e, d, q⟩
  · rw [wipeR_out hno] at q; rw [h1 i hno] at e; exact .inl ⟨e, d, q⟩
  · rw [wipeR_out hno] at q; rw [h1 i hno] at e; exact .inr ⟨e, d, q⟩
theorem wipe_ow (hl : σ.length = ρ.length) {σ1 : SS} (h1 : ∀ i, i ∉ own → σ1[i]? = σ[i]?) {i : Nat} {b : Addr} : OwAt σ1 (wipeR own ρ) i b → i ∉ own ∧ OwAt σ ρ i b := fun h => by
  obtain ⟨hno, _⟩ := wipe_hd hl h1 (.inl h)
  obtain ⟨e, d, q⟩ := h
  rw [wipeR_out hno] at q; rw [h1 i hno] at e
  exact ⟨hno, e, d, q⟩
theorem wipe_lk (hl : σ.length = ρ.length) {σ1 : SS} (h1 : ∀ i, i ∉ own → σ1[i]? = σ[i]?) {i : Nat} {b : Addr} : LkAt σ1 (wipeR own ρ) i b → i ∉ own ∧ LkAt σ ρ i b := fun h => by
  obtain ⟨hno, _⟩ := wipe_hd hl h1 (.inr h)
  obtain ⟨e, d, q⟩ := h
  rw [wipeR_out hno] at q; rw [h1 i hno] at e
  exact ⟨hno, e, d, q⟩
/-- the block's own names forgotten, the values of the others as they stand -/
theorem Sta.wiped (s : Sta K F H σ ρ) {σ1 : SS} (l1 : σ1.length = σ.length) (h1 : ∀ i, i ∉ own → σ1[i]? = σ[i]?) : Sta K F H σ1 (wipeR own ρ) := by
  refine ⟨s.le, by rw [wipeR_len, l1]; exact s.len, fun i sl q => ?_, fun i j b h2 h3 => s.dj i j b (wipe_hd s.len h1 h2).2 (wipe_hd s.len h1 h3).2⟩
  by_cases hi : i ∈ own
  · have hlt : i < ρ.length := by
      have := (List.getElem?_eq_some_iff.mp q).1
      rw [wipeR_len] at this; exact this
    rw [wipeR_in hlt hi] at q; cases q; trivial
  · rw [wipeR_out hi] at q
    rw [h1 i hi]; exact s.sl i sl q
theorem Ext.wiped {F₀ H₀ : Hp} {σ₀ : SS} {ρ₀ : List Sl} (x : Ext K F₀ H₀ σ₀ ρ₀ F H σ ρ) {σ1 : SS} (l1 : σ1.length = σ.length) (h1 : ∀ i, i ∉ own → σ1[i]? = σ[i]?) : Ext K F₀ H₀ σ₀ ρ₀ F H σ1 (wipeR own ρ) :=
  ⟨x.st.wiped l1 h1, x.fr, x.kp, x.nf, x.gr, fun i b q => x.ow i b (wipe_ow x.st.len h1 q).2, fun i b q => x.lk i b (wipe_lk x.st.len h1 q).2⟩
/-- behind the block: the names are what they were -/
theorem Ext.restored (s : Sta K F H σ ρ) {σ1 : SS} (l1 : σ1.length = σ.length) (h1 : ∀ i, i ∉ own → σ1[i]? = σ[i]?) (x : Ext K F H σ1 (wipeR own ρ) F' H' σ1 ρ') :
    Ext K F H σ ρ F' H' σ (restore own ρ ρ') ∧ ∀ i b, HdAt σ (restore own ρ ρ') i b → (i ∈ own ∧ HdAt σ ρ i b) ∨ (i ∉ own ∧ HdAt σ1 ρ' i b) := by
  have hl : ρ'.length = ρ.length := by
    have a := x.st.len
    have b := s.len
    omega
  -- a slot of the block's own names
  have inn : ∀ i sl, i ∈ own → (restore own ρ ρ')[i]? = some sl → ρ[i]? = some sl := fun i sl hi e => by
    have hlt : i < ρ.length := by
      have := (List.getElem?_eq_some_iff.mp e).1
      rw [restore_len hl] at this; exact this
    rw [restore_in hl hlt hi] at e; exact e
  have owR : ∀ i b, OwAt σ (restore own ρ ρ') i b → (i ∈ own ∧ OwAt σ ρ i b) ∨ (i ∉ own ∧ OwAt σ1 ρ' i b) := fun i b ⟨e, d, q⟩ => by
    by_cases hi : i ∈ own
    · exact .inl ⟨hi, e, d, inn i _ hi q⟩
    · rw [restore_out hi] at q
      exact .inr ⟨hi, by rw [h1 i hi]; exact e, d, q⟩
  have lkR : ∀ i b, LkAt σ (restore own ρ ρ') i b → (i ∈ own ∧ LkAt σ ρ i b) ∨ (i ∉ own ∧ LkAt σ1 ρ' i b) := fun i b ⟨e, d, q⟩ => by
    by_cases hi : i ∈ own
    · exact .inl ⟨hi, e, d, inn i _ hi q⟩
    · rw [restore_out hi] at q
      exact .inr ⟨hi, by rw [h1 i hi]; exact e, d, q⟩
  have hdR : ∀ i b, HdAt σ (restore own ρ ρ') i b → (i ∈ own ∧ HdAt σ ρ i b) ∨ (i ∉ own ∧ HdAt σ1 ρ' i b) := fun i b q => by
    rcases q with q | q
    · exact (owR i b q).imp (fun z => ⟨z.1, .inl z.2⟩) fun z => ⟨z.1, .inl z.2⟩
    · exact (lkR i b q).imp (fun z => ⟨z.1, .inr z.2⟩) fun z => ⟨z.1, .inr z.2⟩
  -- what a hidden name holds is apart from what the block holds
  have apart : ∀ i b, i ∈ own → HdAt σ ρ i b → ∀ j, ¬ HdAt σ1 (wipeR own ρ) j b := fun i b hi q j z => by
    obtain ⟨hj, z⟩ := wipe_hd s.len h1 z
    have e := s.dj i j b q z
    subst e
    exact hj hi
  refine ⟨⟨⟨x.st.le, by rw [restore_len hl]; exact s.len, fun i sl q => ?_, fun i j b q1 q2 => ?_⟩, x.fr, fun b o e n => x.kp b o e fun i z => n i (wipe_ow s.len h1 z).2, fun b e n q => x.nf b e (fun i z => n i (wipe_hd s.len h1 z).2) q, x.gr, fun i b q => ?_, fun i b q => ?_⟩, hdR⟩
  · by_cases hi : i ∈ own
    · have q' := inn i sl hi q
      have z := s.sl i sl q'
      cases sl with
      | em => trivial
      | fz d => obtain ⟨v, e, r⟩ := z; exact ⟨v, e, r.mono x.fr⟩
      | ow d =>
        obtain ⟨a, e, nf, o⟩ := z
        obtain ⟨ob, eo⟩ := o.some
        have ap := apart i a hi (.inl ⟨e, d, q'⟩)
        exact ⟨a, e, x.nf a o.ne ap nf, o.mono x.fr ((x.kp a ob eo fun j w => ap j (.inl w)).trans eo.symm)⟩
      | lk d =>
        obtain ⟨a, e, nf, o⟩ := z
        obtain ⟨ob, eo⟩ := o.some
        have ap := apart i a hi (.inr ⟨e, d, q'⟩)
        exact ⟨a, e, x.nf a o.ne ap nf, o.mono x.fr ((x.kp a ob eo fun j w => ap j (.inl w)).trans eo.symm)⟩
    · rw [restore_out hi] at q
      rw [← h1 i hi]; exact x.st.sl i sl q
  · have cross : ∀ i j b, i ∈ own → HdAt σ ρ i b → HdAt σ1 ρ' j b → False := fun i j b hi w1 w2 => by
      rcases x.hd w2 with y | y
      · exact apart i b hi w1 j y
      · obtain ⟨_, d, o⟩ := s.held w1
        exact o.ne y
    rcases hdR i b q1 with ⟨hi, w1⟩ | ⟨hi, w1⟩
    · rcases hdR j b q2 with ⟨hj, w2⟩ | ⟨hj, w2⟩
      · exact s.dj i j b w1 w2
      · exact (cross i j b hi w1 w2).elim
    · rcases hdR j b q2 with ⟨hj, w2⟩ | ⟨hj, w2⟩
      · exact (cross j i b hj w2 w1).elim
      · exact x.st.dj i j b w1 w2
  · rcases owR i b q with ⟨_, z⟩ | ⟨_, z⟩
    · exact .inl z
    · rcases x.ow i b z with y | y
      · exact .inl (wipe_ow s.len h1 y).2
      · exact .inr y
  · rcases lkR i b q with ⟨_, z⟩ | ⟨_, z⟩
    · exact .inl (.inr z)
    · rcases x.lk i b z with y | y
      · exact .inl (wipe_hd s.len h1 y).2
      · exact .inr y
end
/-- a new object of ours that no slot holds is changed -/
theorem Ext.updFree {F₀ H₀ : Hp} {σ₀ : SS} {ρ₀ : List Sl} {p : Addr} {o : HO} (x : Ext K F₀ H₀ σ₀ ρ₀ F H σ ρ) (h0 : H₀ p = none) (hf : F p = none) (hn : ∀ i, ¬ HdAt σ ρ i p) : Ext K F₀ H₀ σ₀ ρ₀ F (upd H p o) σ ρ := by
  refine ⟨⟨fun b u e => ?_, x.st.len, fun i s q => ?_, x.st.dj⟩, x.fr, fun b u e n => ?_, x.nf, fun b e => ?_, x.ow, x.lk⟩
  · have hb : b ≠ p := fun z => by subst z; rw [hf] at e; cases e
    rw [upd_ne hb]; exact x.st.le b u e
  · have z := x.st.sl i s q
    cases s with
    | em => trivial
    | fz d => exact z
    | ow d =>
      obtain ⟨a, e, nf, ob⟩ := z
      have ha : a ≠ p := fun z => by subst z; exact hn i (.inl ⟨e, d, q⟩)
      exact ⟨a, e, nf, ob.mono (Same.refl _) (upd_ne ha)⟩
    | lk d =>
      obtain ⟨a, e, nf, ob⟩ := z
      have ha : a ≠ p := fun z => by subst z; exact hn i (.inr ⟨e, d, q⟩)
      exact ⟨a, e, nf, ob.mono (Same.refl _) (upd_ne ha)⟩
  · have hb : b ≠ p := fun z => by subst z; rw [h0] at e; cases e
    rw [upd_ne hb]; exact x.kp b u e n
  · by_cases hb : b = p
    · subst hb; rw [upd_same]; exact fun z => nomatch z
    · rw [upd_ne hb]; exact x.gr b e
def lcGo (own : List Nat) (g : DG) (tt : M Bool) (te : M Rs) : List D → List D → M (List D)
  | [], acc => pr acc
  | d :: ds, acc => fun ρ => match g d ρ with
    | none => .bad
    | some ρ1 => match tt ρ1 with
      | .bad => .bad
      | .ok false ρ2 => lcGo own g tt te ds acc (wipeR own ρ2)
      | .ok true ρ2 => match bd te frz ρ2 with
        | .bad => .bad
        | .ok x ρ3 => lcGo own g tt te ds (acc ++ [x]) (wipeR own ρ3)
/-- what a comprehension walks -/
def dLc (own : List Nat) (w : M Wk) (g : DG) (tt : M Bool) (te : M Rs) : M Rs := fun ρ => match w ρ with
  | .bad => .bad
  | .ok (ds, l) ρ1 => if ds.length ≤ sizeLine then match lcGo own g tt te ds [] (wipeR own ρ1) with
    | .bad => .bad
    | .ok acc ρ2 => .ok (.ow (.list acc)) (unl l (restore own ρ1 ρ2))
    else .bad
theorem lcGo_drop {own : List Nat} {g : DG} {tt : M Bool} {te : M Rs} {ds : List D} {i : Nat} {d : D} (h : ds[i]? = some d) (acc : List D) : lcGo own g tt te (ds.drop i) acc = lcGo own g tt te (d :: ds.drop (i + 1)) acc := by
  have hi := (List.getElem?_eq_some_iff.mp h).1
  rw [List.drop_eq_getElem_cons hi]
  have : ds[i] = d := (List.getElem?_eq_some_iff.mp h).2
  rw [this]
theorem sem_lc {own : List Nat} {w : M Wk} {g : DG} {tt : M Bool} {te : M Rs} : ∀ σ H Q, tSem K (dLc own w g tt te) σ H Q → tLc (tSemI K w) (tSemG K (fun i => i ∉ own) g) (tSemT K tt) (tSem K te) own σ H Q := fun σ H Q ⟨F, ρ, r, ρ', s, e, k⟩ => by
  unfold dLc at e
  cases ew : w ρ with
  | bad => rw [ew] at e; cases e
  | ok a ρ1 =>
    obtain ⟨ds, l⟩ := a
    rw [ew] at e
    simp only at e
    split at e
    case isFalse => cases e
    case isTrue hsz =>
    cases eg : lcGo own g tt te ds [] (wipeR own ρ1) with
    | bad => rw [eg] at e; cases e
    | ok acc ρ2 =>
      rw [eg] at e
      cases e
      refine ⟨F, ρ, ds, l, ρ1, s, ew, fun F1 H1 N J x1 hu sN hN it p hp => ?_⟩
      have lw : (wipe σ own).length = σ.length := wipe_length _ _
      have hw : ∀ i, i ∉ own → (wipe σ own)[i]? = σ[i]? := fun i h => wipe_out h
      have st0 : Sta K F1 H1 (wipe σ own) (wipeR own ρ1) := x1.st.wiped lw hw
      have n0 : ∀ i, ¬ HdAt (wipe σ own) (wipeR own ρ1) i p := fun i z => by
        obtain ⟨_, d, o⟩ := st0.held z
        exact o.ne hp
      have fp : F1 p = none := x1.st.le.free hp
      refine ⟨fun i m H' => m = ds.length - i ∧ i ≤ ds.length ∧ ∃ F' ρ' acc' vs, Ext K F1 H1 (wipe σ own) (wipeR own ρ1) F' H' (wipe σ own) ρ' ∧ (∀ j, ¬ HdAt (wipe σ own) ρ' j p) ∧ F' p = none ∧ H' p = some (.lst vs) ∧ RpA K F' vs acc' ∧ acc'.length ≤ i ∧
        lcGo own g tt te (ds.drop i) acc' ρ' = .ok acc ρ2, ⟨ds.length, by simp, Nat.zero_le _, F1, _, [], [], (Ext.refl st0).updFree hp fp n0, n0, fp, upd_same, .nil, Nat.le_refl _, by simpa using eg⟩, ?_⟩
      rintro i m H' ⟨rfl, hi, F', ρ', acc', vs, x, hn, hf, ho, ra, hla, el⟩
      have sN' : Same N H' := fun b o eb => x.kp b o (sN b o eb) fun j z => by
        have := wipe_ow x1.st.len hw z
        exact hN b (by rw [eb]; exact fun z => nomatch z) j this.2
      obtain ⟨itg, its⟩ := it i F' H' x.fr x.st.le sN'
      by_cases hlt : i < ds.length
      · have hd : ds[i]? = some ds[i] := List.getElem?_eq_getElem hlt
        obtain ⟨go, yl⟩ := itg _ hd
        rw [lcGo_drop hd] at el
        refine .inr ⟨go, fun H2 => ∃ F' ρ' acc' vs, Ext K F1 H1 (wipe σ own) (wipeR own ρ1) F' H2 (wipe σ own) ρ' ∧ (∀ j, ¬ HdAt (wipe σ own) ρ' j p) ∧ F' p = none ∧ H2 p = some (.lst vs) ∧ RpA K F' vs acc' ∧ acc'.length ≤ i + 1 ∧
          lcGo own g tt te (ds.drop (i + 1)) acc' ρ' = .ok acc ρ2, fun H2 q => ⟨ds.length - (i + 1), by omega, rfl, hlt, q⟩, fun v H2 y => ?_⟩
        obtain ⟨F2, gr, rp⟩ := yl v H2 y
        have y2 := x.st.grow gr
        have x2 := x.trans y2
        -- the list at p stands through what reads
        have hp' : H' p ≠ none := by rw [ho]; exact fun z => nomatch z
        unfold lcGo at el
        cases egd : g ds[i] ρ' with
        | none => rw [egd] at el; cases el
        | some ρ3 =>
          rw [egd] at el
          simp only at el
          refine ⟨F2, ρ', ds[i], ρ3, x2.st, rp, egd, fun σ3 x3 p3 => ?_⟩
          have l3 : σ3.length = (wipe σ own).length := p3.1
          have hw3 : ∀ i, i ∉ own → σ3[i]? = (wipe σ own)[i]? := fun i h => p3.2 i h
          refine ⟨by rw [wipe_eq l3 hw3, wipe_wipe], ?_⟩
          -- what holds of p behind any of these
          have atp : ∀ {F5 H5 : Hp} {ρ5 : List Sl}, Ext K F' H' (wipe σ own) ρ' F5 H5 σ3 ρ5 → H5 p = some (.lst vs) ∧ F5 p = none ∧ ∀ j, ¬ HdAt σ3 ρ5 j p := fun {F5 H5 ρ5} y => by
            refine ⟨y.kp p _ ho fun j z => hn j (.inl z), y.nf p hp' hn hf, fun j z => ?_⟩
            rcases y.hd z with w | w
            · exact hn j w
            · exact hp' w
          have back3 : ∀ {F5 H5 : Hp} {ρ5 : List Sl}, Sta K F5 H5 σ3 ρ5 → (∀ j, ¬ HdAt σ3 ρ5 j p) → ∀ j, ¬ HdAt (wipe σ own) (wipeR own ρ5) j p := fun {F5 H5 ρ5} st h j z => h j (wipe_hd st.len (fun i h => (hw3 i h).symm) z).2
          cases et : tt ρ3 with
          | bad => simp only [et] at el; cases el
          | ok b ρ4 =>
            simp only [et] at el
            refine ⟨F2, ρ3, b, ρ4, x3.st, et, fun F4 H4 x4 => ?_⟩
            have y4 := (y2.trans x3).trans x4
            cases b with
            | false =>
              simp only at el
              obtain ⟨a1, a2, a3⟩ := atp y4
              exact iteF ⟨F4, _, acc', vs, (x.trans y4).wiped l3.symm fun i h => (hw3 i h).symm, back3 y4.st a3, a2, a1, ra.mono y4.fr, by omega, el⟩
            | true =>
              simp only at el
              cases ee : bd te frz ρ4 with
              | bad => rw [ee] at el; cases el
              | ok z ρ5 =>
                rw [ee] at el
                simp only at el
                obtain ⟨r, ρ6, e1, e2⟩ := bd_ok ee
                refine iteT ⟨F4, ρ4, r, ρ6, x4.st, e1, fun F5 H5 u x5 q5 => ?_⟩
                obtain ⟨F6, y6, rz⟩ := frz_ok (y4.trans x5) (q5.base fun a z => y4.back z) e2
                obtain ⟨a1, a2, a3⟩ := atp y6
                refine ⟨vs, a1, ?_, F6, _, acc' ++ [z], vs ++ [u], ((x.trans y6).updFree hp a2 a3).wiped l3.symm fun i h => (hw3 i h).symm, back3 y6.st a3, a2, upd_same, (ra.mono y6.fr).app (.one rz), ?_, el⟩
                · rw [ra.length]; omega
                · rw [List.length_append, List.length_singleton]; omega
      · have ei : i = ds.length := by omega
        subst ei
        rw [List.drop_length] at el
        obtain ⟨e1, e2⟩ := pr_ok el
        subst e1; subst e2
        obtain ⟨x5, hd5⟩ := Ext.restored x1.st lw hw x
        refine .inl ⟨its rfl, k F' H' (.ref p) (x1.unlock hu x5) ⟨p, rfl, x1.back hp, hf, ⟨vs, ho, ra⟩, fun j z => ?_⟩⟩
        rcases hd5 j p (unl_hd z) with ⟨_, w⟩ | ⟨_, w⟩
        · obtain ⟨_, d, o⟩ := x1.st.held w
          exact o.ne hp
        · exact hn j w
def dYes : M Bool := pr true
theorem sem_yes : ∀ σ H Q, tSemT K dYes σ H Q → tYes σ H Q := fun σ H Q ⟨F, ρ, r, ρ', s, e, k⟩ => by
  cases e; exact k F H (Ext.refl s)
theorem ptsWeak {X : Cx} {e : List Expr} {t t' : TT} (h : PTs X e t) (w : ∀ σ H Q, t' σ H Q → t σ H Q) : PTs X e t' :=
  ⟨fun pins s σ H Q I q => h.run pins s σ H Q I (w σ H Q q)⟩
section
variable {X : Cx} {c : Expr} {tc : M Bool}
theorem tn : PTs X [] (tSemT X.K dYes) := ptsWeak pts_nil sem_yes
theorem t1 (h : PT X c (tSemT X.K tc)) : PTs X [c] (tSemT X.K tc) := pts_one h
theorem lc {elt tg iter : Expr} {ifs : List Expr} {scope : Scope} {own : List (Str × Nat)} {pos : Pos} {w : M Wk} {g : DG} {tt : M Bool} {te : M Rs} (hc : X.calm = true) (hN : X.N.Nodup) (hi : PI X tg iter (tSemI X.K w)) (ok : BlkOk X.N X.env.scope scope own)
    (hg : ∀ (s : Shared) (H : Hp) (C : Addr) (cl : List (Str × Addr)) (fp : List Addr), PG (X.blk s H scope (compEnvC scope cl C X.env) fp) tg (tSemG X.K (fun i => i ∉ own.map (·.2)) g))
    (ht : ∀ (s : Shared) (H : Hp) (C : Addr) (cl : List (Str × Addr)) (fp : List Addr), PTs (X.blk s H scope (compEnvC scope cl C X.env) fp) ifs (tSemT X.K tt))
    (he : ∀ (s : Shared) (H : Hp) (C : Addr) (cl : List (Str × Addr)) (fp : List Addr), PE (X.blk s H scope (compEnvC scope cl C X.env) fp) elt (tSem X.K te)) (hs : ∀ x, foldedSetIterable iter X.env x = pure x := by intro _; rfl) :
    PE X (.ListComp elt [⟨tg, iter, ifs, 0⟩] scope pos) (tSem X.K (dLc (own.map (·.2)) w g tt te)) := peWeak (pe_lc hc hN hi ok hg ht he hs) sem_lc
theorem slc {P : Nat → Prop} {i : Nat} {y : Str} {py : Pos} {elt tg iter : Expr} {ifs : List Expr} {scope : Scope} {own : List (Str × Nat)} {pos spos : Pos} {w : M Wk} {g : DG} {tt : M Bool} {te : M Rs} (hP : ¬ P i) (hc : X.calm = true) (hN : X.N.Nodup) (hy : X.N[i]? = some y) (hyl : X.env.scope.names.lookup y = some .local)
    (hsw : swapsWith (.ListComp elt [⟨tg, iter, ifs, 0⟩] scope pos) (some (.Name y py)) spos.line X.env = pure true) (hi : PI X tg iter (tSemI X.K w)) (ok : BlkOk X.N X.env.scope scope own)
    (hg : ∀ (s : Shared) (H : Hp) (C : Addr) (cl : List (Str × Addr)) (fp : List Addr), PG (X.blk s H scope (compEnvC scope cl C X.env) fp) tg (tSemG X.K (fun i => i ∉ own.map (·.2)) g))
    (ht : ∀ (s : Shared) (H : Hp) (C : Addr) (cl : List (Str × Addr)) (fp : List Addr), PTs (X.blk s H scope (compEnvC scope cl C X.env) fp) ifs (tSemT X.K tt))
    (he : ∀ (s : Shared) (H : Hp) (C : Addr) (cl : List (Str × Addr)) (fp : List Addr), PE (X.blk s H scope (compEnvC scope cl C X.env) fp) elt (tSem X.K te)) (hs : ∀ x, foldedSetIterable iter X.env x = pure x := by intro _; rfl) :
    PS X (.Assign [.Name y py] (.ListComp elt [⟨tg, iter, ifs, 0⟩] scope pos) spos) (tSemS X.K P (dSet i (dLc (own.map (·.2)) w g tt te))) := by
  refine psWeak (ps_setLc hc hN hy hyl hsw hi ok hg ht he hs) fun D σ H h => ?_
  exact sem_lc σ H _ (sem_set hP D σ H h)
end
end
end DL
namespace DL
open PySem PySem.Spec PyProof.Rows L2
section
variable {K : PySem.W.Frag} {F H F' H' : Hp} {σ σ' : SS} {ρ ρ' : List Sl}
/-! ### defs -/
/-- the parameters' slots at the end: those that may be lent as they stand, of the others nothing is told -/
def outP : List Bool → List Sl → List Sl
  | true :: bs, s :: ss => s :: outP bs ss
  | false :: bs, _ :: ss => .em :: outP bs ss
  | _, _ => []
/-- a def with N slots, the parameters first; ms: which of them are never stored to -/
def runDef (ms : List Bool) (n : Nat) (body : DS) : M Rs := fun args => match body (args ++ List.replicate (n - args.length) .em) with
  | .nx ρ => .ok (.fz .none) (outP ms ρ)
  | .rt (.fz d) ρ => .ok (.fz d) (outP ms ρ)
  | .rt (.ow d) ρ => .ok (.ow d) (outP ms ρ)
  | .rt (.nm i) ρ => match ρ[i]? with
    | some (.fz d) => .ok (.fz d) (outP ms ρ)
    | some (.ow d) => if ms.length ≤ i then .ok (.ow d) (outP ms ρ) else .ok (.fz d) (outP ms (ρ.set i (.fz d)))
    | some (.lk d) => .ok (.fz d) (outP ms (ρ.set i (.fz d)))
    | _ => .bad
  | _ => .bad
theorem outP_len : ∀ {ms : List Bool} {ρ : List Sl}, ms.length ≤ ρ.length → (outP ms ρ).length = ms.length
  | [], _, _ => by unfold outP; simp
  | true :: ms, [], h => by simp at h
  | false :: ms, [], h => by simp at h
  | true :: ms, s :: ρ, h => by unfold outP; rw [List.length_cons, List.length_cons, outP_len (by simpa using h)]
  | false :: ms, s :: ρ, h => by unfold outP; rw [List.length_cons, List.length_cons, outP_len (by simpa using h)]
theorem outP_get : ∀ {ms : List Bool} {ρ : List Sl} {i : Nat} {s : Sl}, (outP ms ρ)[i]? = some s → s = .em ∨ (ms[i]? = some true ∧ ρ[i]? = some s)
  | [], _, _, _, h => by unfold outP at h; simp at h
  | true :: ms, [], _, _, h => by unfold outP at h; simp at h
  | false :: ms, [], _, _, h => by unfold outP at h; simp at h
  | true :: ms, s :: ρ, 0, _, h => by unfold outP at h; simp at h; exact .inr ⟨rfl, by simpa using h⟩
  | false :: ms, s :: ρ, 0, _, h => by unfold outP at h; simp at h; exact .inl h.symm
  | true :: ms, s :: ρ, i + 1, _, h => by unfold outP at h; simp at h; exact (outP_get h).imp id fun z => ⟨by simpa using z.1, by simpa using z.2⟩
  | false :: ms, s :: ρ, i + 1, _, h => by unfold outP at h; simp at h; exact (outP_get h).imp id fun z => ⟨by simpa using z.1, by simpa using z.2⟩
theorem start_at {N : List Str} {vs : List V} (i : Nat) (hi : i < vs.length) : (start N vs)[i]? = (vs.map some)[i]? := by
  unfold L2.start
  rw [List.getElem?_append_left (by simpa using hi)]
theorem start_out {N : List Str} {vs : List V} {i : Nat} {v : V} (h : (start N vs)[i]? = some (some v)) : i < vs.length := by
  unfold L2.start at h
  rcases Nat.lt_or_ge i vs.length with z | z
  · exact z
  · rw [List.getElem?_append_right (by simpa using z), List.getElem?_replicate] at h
    split at h <;> cases h
section
variable {vs : List V} {N : List Str} {args : List Sl}
theorem start_hd (hl : vs.length = args.length) {k : Nat} {i : Nat} {b : Addr} : HdAt (start N vs) (args ++ List.replicate k .em) i b → HdAt (vs.map some) args i b := fun h => by
  have hi : i < vs.length := by rcases h with ⟨e, _⟩ | ⟨e, _⟩ <;> exact start_out e
  rcases h with ⟨e, d, q⟩ | ⟨e, d, q⟩
  · rw [start_at i hi] at e
    rw [List.getElem?_append_left (by omega)] at q
    exact .inl ⟨e, d, q⟩
  · rw [start_at i hi] at e
    rw [List.getElem?_append_left (by omega)] at q
    exact .inr ⟨e, d, q⟩
theorem start_ow (hl : vs.length = args.length) {k : Nat} {i : Nat} {b : Addr} : OwAt (start N vs) (args ++ List.replicate k .em) i b → OwAt (vs.map some) args i b := fun ⟨e, d, q⟩ => by
  have hi : i < vs.length := start_out e
  rw [start_at i hi] at e
  rw [List.getElem?_append_left (by omega)] at q
  exact ⟨e, d, q⟩
theorem start_sta (s : Sta K F H (vs.map some) args) (hn : vs.length ≤ N.length) : Sta K F H (start N vs) (args ++ List.replicate (N.length - args.length) .em) := by
  have hl : vs.length = args.length := by simpa using s.len
  refine ⟨s.le, by unfold L2.start; simp; omega, fun i sl q => ?_, fun i j b h1 h2 => s.dj i j b (start_hd hl h1) (start_hd hl h2)⟩
  rcases Nat.lt_or_ge i args.length with z | z
  · rw [List.getElem?_append_left z] at q
    rw [start_at i (by omega)]; exact s.sl i sl q
  · rw [List.getElem?_append_right z, List.getElem?_replicate] at q
    split at q
    · cases q; trivial
    · cases q
/-- behind a def's body: what the caller sees -/
theorem out_ext {ms : List Bool} (s : Sta K F H (vs.map some) args) (hn : vs.length ≤ N.length) (hm : ms.length = vs.length)
    (x : Ext K F H (start N vs) (args ++ List.replicate (N.length - args.length) .em) F' H' σ' ρ') (p : Prot (fun i => ms[i]? = some true) (start N vs) σ') :
    Ext K F H (vs.map some) args F' H' (vs.map some) (outP ms ρ') ∧ ∀ i b, HdAt (vs.map some) (outP ms ρ') i b → i < vs.length ∧ HdAt σ' ρ' i b := by
  have hl : vs.length = args.length := by simpa using s.len
  have hls : (start N vs).length = N.length := by unfold L2.start; simp; omega
  have hlr : ρ'.length = N.length := by rw [← x.st.len, p.1, hls]
  have same : ∀ i, ms[i]? = some true → σ'[i]? = (vs.map some)[i]? := fun i hi => by
    have hi' : i < vs.length := by rw [← hm]; exact (List.getElem?_eq_some_iff.mp hi).1
    rw [p.2 i hi, start_at i hi']
  have hd : ∀ i b, HdAt (vs.map some) (outP ms ρ') i b → i < vs.length ∧ HdAt σ' ρ' i b := fun i b h => by
    rcases h with ⟨e, d, q⟩ | ⟨e, d, q⟩
    · rcases outP_get q with z | ⟨z1, z2⟩
      · cases z
      · exact ⟨by rw [← hm]; exact (List.getElem?_eq_some_iff.mp z1).1, .inl ⟨by rw [same i z1]; exact e, d, z2⟩⟩
    · rcases outP_get q with z | ⟨z1, z2⟩
      · cases z
      · exact ⟨by rw [← hm]; exact (List.getElem?_eq_some_iff.mp z1).1, .inr ⟨by rw [same i z1]; exact e, d, z2⟩⟩
  refine ⟨⟨⟨x.st.le, by rw [outP_len (by omega), List.length_map, hm], fun i sl q => ?_, fun i j b h1 h2 => x.st.dj i j b (hd i b h1).2 (hd j b h2).2⟩, x.fr, fun b o e n => x.kp b o e fun i z => n i (start_ow hl z),
    fun b e n q => x.nf b e (fun i z => n i (start_hd hl z)) q, x.gr, fun i b q => ?_, fun i b q => ?_⟩, hd⟩
  · rcases outP_get q with z | ⟨z1, z2⟩
    · rw [z]; trivial
    · rw [← same i z1]; exact x.st.sl i sl z2
  · obtain ⟨e, d, q⟩ := q
    rcases outP_get q with z | ⟨z1, z2⟩
    · cases z
    · exact (x.ow i b ⟨by rw [same i z1]; exact e, d, z2⟩).imp (start_ow hl) id
  · obtain ⟨e, d, q⟩ := q
    rcases outP_get q with z | ⟨z1, z2⟩
    · cases z
    · exact (x.lk i b ⟨by rw [same i z1]; exact e, d, z2⟩).imp (start_hd hl) id
end
/-- a def's body keeps the def's promise -/
theorem sem_def {ms : List Bool} {N : List Str} {body : DS} {vs : List V} {Q : VK} (hn : vs.length ≤ N.length) (hm : ms.length = vs.length) (h : tSem K (runDef ms N.length body) (vs.map some) H Q) :
    tSemS K (fun i => ms[i]? = some true) body { nx := fun _ H' => Q .non H', rt := Q } (start N vs) H := by
  obtain ⟨F, args, r, ρ', s, e, k⟩ := h
  have hl : vs.length = args.length := by simpa using s.len
  have s0 := start_sta (N := N) s hn
  refine ⟨F, _, s0, ?_⟩
  unfold runDef at e
  cases eb : body (args ++ List.replicate (N.length - args.length) .em) with
  | nx ρ1 =>
    rw [eb] at e; cases e
    exact fun F' H' σ' x p => k F' H' .non (out_ext s hn hm x p).1 .non
  | bk ρ1 => rw [eb] at e; cases e
  | ct ρ1 => rw [eb] at e; cases e
  | bad => rw [eb] at e; cases e
  | rt r1 ρ1 =>
    rw [eb] at e
    intro F' H' σ' v x p q
    obtain ⟨x1, hd1⟩ := out_ext s hn hm x p
    cases r1 with
    | fz d => cases e; exact k F' H' v x1 q
    | ow d =>
      cases e
      obtain ⟨a, q1, q2, q3, q4, q5⟩ := q
      exact k F' H' v x1 ⟨a, q1, q2, q3, q4, fun i z => q5 i (hd1 i a z).2⟩
    | nm i =>
      have q : σ'[i]? = some (some v) := q
      simp only at e
      cases q1 : ρ1[i]? with
      | none => rw [q1] at e; cases e
      | some sl =>
        rw [q1] at e
        have z := x.st.sl i sl q1
        rw [q] at z
        cases sl with
        | em => cases e
        | fz d =>
          cases e
          obtain ⟨w, w1, w2⟩ := z
          cases w1
          exact k F' H' v x1 w2
        | ow d =>
          obtain ⟨a, w1, w2, w3⟩ := z
          cases w1
          simp only at e
          split at e
          · rename_i hi
            cases e
            refine k F' H' _ x1 ⟨a, rfl, ?_, w2, w3, fun j z => ?_⟩
            · rcases x.ow i a ⟨q, d, q1⟩ with y | y
              · have := start_out y.1
                omega
              · exact y
            · obtain ⟨z1, z2⟩ := hd1 j a z
              have := x.st.dj i j a (.inl ⟨q, d, q1⟩) z2
              omega
          · cases e
            obtain ⟨F2, x2, rp⟩ := x.freeze q q1 (.inl rfl)
            exact k F2 H' _ (out_ext s hn hm x2 p).1 rp
        | lk d =>
          obtain ⟨a, w1, w2, w3⟩ := z
          cases w1
          cases e
          obtain ⟨F2, x2, rp⟩ := x.freeze q q1 (.inr rfl)
          exact k F2 H' _ (out_ext s hn hm x2 p).1 rp
end
section
variable {P : Program} {w : World} {K : PySem.W.Frag} {mg : Str → Option Value} {base : Heap}
/-- THE RULE for a def -/
theorem fun_ok {x qual : Str} {st : Stmt} {f : Addr} {fd : FuncData} {N ps : List Str} {k : Nat} {ms : List Bool} {body : DS} (F : Fun K x qual st f fd) (S : FnScope N ps (defScope st)) (hm : ms.length = ps.length)
    (hbody : ∀ (cdv : Value) (A : Around) (outer : List Env) (s : Shared) (H : Hp) (E : XK), Room k (A.deeper (envOfC qual (defScope st) s.heap.objs.size f cdv)) →
      PSs (cxOf CX0 P w K mg base N qual (defScope st) f cdv A outer s H E).nox (defBody st) (tSemS K (fun i => ms[i]? = some true) body)) :
    FnOk P w K mg base CX0 (k + 1) f fd ps (spD K ps.length (runDef ms N.length body)) := by
  have hpn : ps.length ≤ N.length := by
    have := congrArg List.length S.pre
    rw [List.length_take] at this
    omega
  refine F.ok S (fun vs H Q E h => h.1) fun cdv A outer s H vs Q E hr h => ?_
  exact ⟨_, hbody cdv A outer s H E hr, sem_def (by rw [h.1]; exact hpn) (by rw [hm, h.1]) h.2⟩
/-- f(..) -/
theorem ecall {X : Cx} {k : Nat} {f : Addr} {fd : FuncData} {ps : List Str} {sem : M Rs} {n : Nat} {x : Str} {p pos : Pos} {e : Expr} {es : List Expr} {fa : M (List Rs)} {ls : List Bool} (G : FnOk X.prog X.w X.K X.mg X.base CX0 k f fd ps (spD X.K n sem)) (hr : Room k X.A) (hg : Gl X x) (hm : X.mg x = some (.ref f)) (hk : PySem.W.keepIn X.K (.ref f) = true)
    (hb : Binds X.K fd ps []) (hn : ls.length = n) (ha : PA X (e :: es) (tSemA X.K fa)) (hdb : (x == ("__debug__" : Str)) = false := by decide) (he : starEach (e :: es) X.env = (false, eval e X.env) :: starEach es X.env := by rfl) (hpl : (backTo pos (starEach es X.env)).any (·.1) = false := by rfl) :
    PE X (.Call (.Name x p) (e :: es) [] pos) (tSem X.K (dCall ls sem fa)) := peWeak (pe_call G hr hg hm hk hb .nil pass0 ha hdb he hpl) (sem_call hn)
end
end DL
namespace DL
open PySem PySem.Spec PyProof.Rows L2
/-! ### operations of values, by functions of data -/
def rG (K : PySem.W.Frag) (g : G2) : R2 := fun x y H Q => ∃ F dx dy res, Same F H ∧ Vw K F H x dx ∧ Vw K F H y dy ∧ g dx dy = some res ∧ NewR K F H res Q
def rG1 (K : PySem.W.Frag) (g : D → Option Rs) : V → Hp → VK → Prop := fun x H Q => ∃ F dx res, Same F H ∧ Vw K F H x dx ∧ g dx = some res ∧ NewR K F H res Q
def rGN (K : PySem.W.Frag) (g : List D → Option Rs) : List V → Hp → VK → Prop := fun x H Q => ∃ F dx res, Same F H ∧ VwA K F H x dx ∧ g dx = some res ∧ NewR K F H res Q
theorem op2G {K : PySem.W.Frag} {g : G2} : Op2 K (rG K g) g := fun F _ _ _ dx dy res _ s h1 h2 e q => ⟨F, dx, dy, res, s, h1, h2, e, q⟩
theorem op1G {K : PySem.W.Frag} {g : D → Option Rs} : Op1 K (rG1 K g) g := fun F _ _ dx res _ s h1 e q => ⟨F, dx, res, s, h1, e, q⟩
theorem opNG {K : PySem.W.Frag} {g : List D → Option Rs} : OpN K (rGN K g) g := fun F _ _ dx res _ s h1 e q => ⟨F, dx, res, s, h1, e, q⟩
section
variable {X : Cx} {a b c : Expr} {fa fb fc : M Rs} {pos : Pos}
theorem e2 {op : Operator} {g : G2} (ho : OpR X (binaryOp op) (rG X.K g)) (ha : PE X a (tSem X.K fa)) (hb : PE X b (tSem X.K fb)) : PE X (.BinOp a op b pos) (tSem X.K (dOp2 g fa fb)) := peWeak (pe_op ho ha hb) (sem_op2 op2G)
theorem e1 {op : UnaryOp} {g : D → Option Rs} (ho : UnR X (unaryOp op) (rG1 X.K g)) (ha : PE X a (tSem X.K fa)) : PE X (.UnaryOp op a pos) (tSem X.K (dOp1 g fa)) := peWeak (pe_un ho ha) (sem_op1 op1G)
abbrev gB (g : D → D → Option Bool) : G2 := fun a b => (g a b).map fun k => .fz (.bool k)
/-- a comparison as a value, as a test -/
theorem ecmp {op : CmpOp} {g : D → D → Option Bool} (ho : OpR X (compareOp op) (rG X.K (gB g))) (ha : PE X a (tSem X.K fa)) (hb : PE X b (tSem X.K fb)) (hm : behindInMarks op b = false := by first | exact nomark _ | rfl) : PE X (.Compare a [op] [b] pos) (tSem X.K (dOp2 (gB g) fa fb)) := peWeak (pe_cmpR ho ha hb hm) (sem_op2 op2G)
theorem tcmp {op : CmpOp} {g : D → D → Option Bool} (ho : OpR X (compareOp op) (rG X.K (gB g))) (ha : PE X a (tSem X.K fa)) (hb : PE X b (tSem X.K fb)) (hm : behindInMarks op b = false := by first | exact nomark _ | rfl) : PT X (.Compare a [op] [b] pos) (tSemT X.K (dOp2T g fa fb)) := ptWeak (pt_cmpR ho ha hb hm) (sem_op2T op2G)
/-- f(..), f a built-in -/
theorem eB {x : Str} {p : Pos} {e : Expr} {es : List Expr} {id : String} {f : M (List Rs)} {g : List D → Option Rs} (hc : CallR X (.builtin id) (rGN X.K g)) (hg : Gl X x) (hm : X.mg x = none) (hv : bootBuiltins x = some (.builtin id)) (ha : PA X (e :: es) (tSemA X.K f)) (hn : x ≠ "__name__" := by decide) (hdb : (x == ("__debug__" : Str)) = false := by decide)
    (he : starEach (e :: es) X.env = (false, eval e X.env) :: starEach es X.env := by rfl) (hpl : (backTo pos (starEach es X.env)).any (·.1) = false := by rfl) : PE X (.Call (.Name x p) (e :: es) [] pos) (tSem X.K (dB g f)) := peWeak (pe_callB hc hg hm hv ha hn hdb he hpl) (sem_B opNG)
theorem eTy {x : Str} {p : Pos} {e : Expr} {es : List Expr} {id : String} {f : M (List Rs)} {g : List D → Option Rs} (hc : CallR X (.type id) (rGN X.K g)) (hg : Gl X x) (hm : X.mg x = none) (hv : bootBuiltins x = some (.type id)) (ha : PA X (e :: es) (tSemA X.K f)) (hn : x ≠ "__name__" := by decide) (hdb : (x == ("__debug__" : Str)) = false := by decide)
    (he : starEach (e :: es) X.env = (false, eval e X.env) :: starEach es X.env := by rfl) (hpl : (backTo pos (starEach es X.env)).any (·.1) = false := by rfl) : PE X (.Call (.Name x p) (e :: es) [] pos) (tSem X.K (dB g f)) := peWeak (pe_callTy hc hg hm hv ha hn hdb he hpl) (sem_B opNG)
end
/-! ### numbers -/
def mulOk (i j : Int) : Bool := decide (-(2 ^ 64) < i ∧ i < 2 ^ 64) || decide (-(2 ^ 64) < j ∧ j < 2 ^ 64)
def gAdd : G2
  | .int i, .int j => some (.fz (.int (i + j)))
  | .str i, .str j => if i.length + j.length ≤ sizeLine then some (.fz (.str (i ++ j))) else none
  | .list i, .list j => if i.length + j.length ≤ sizeLine then some (.ow (.list (i ++ j))) else none
  | .tuple i, .tuple j => if i.length + j.length ≤ sizeLine then some (.fz (.tuple (i ++ j))) else none
  | _, _ => none
def gSub : G2
  | .int i, .int j => some (.fz (.int (i - j)))
  | _, _ => none
def gMul : G2
  | .int i, .int j => if mulOk i j then some (.fz (.int (i * j))) else none
  | _, _ => none
def gDiv : G2
  | .int i, .int j => if 0 < j ∧ j < 1073741824 then some (.fz (.int (i / j))) else if j ≠ 0 ∧ j.natAbs < 1073741824 then some (.fz (.int (i.fdiv j))) else none
  | _, _ => none
def gMod : G2
  | .int i, .int j => if 0 < j then some (.fz (.int (i % j))) else if j ≠ 0 then some (.fz (.int (i.fmod j))) else none
  | _, _ => none
def gPow : G2
  | .int i, .int j => if 0 ≤ j ∧ j ≤ 1000000 ∧ i.natAbs < 2 ^ 64 then some (.fz (.int (i ^ j.toNat))) else none
  | _, _ => none
def gNeg : D → Option Rs
  | .int i => some (.fz (.int (-i)))
  | _ => none
section
variable {X : Cx}
theorem cat_rd : OpR X (binaryOp .Add) (fun x y H Q => ∃ l b xs zs, x = .ref l ∧ y = .ref b ∧ Rd H l (.lst xs) ∧ Rd H b (.lst zs) ∧ xs.length + zs.length ≤ sizeLine ∧ ∀ p, H p = none → Q (.ref p) (upd H p (.lst (xs ++ zs)))) := by
  intro pins s σ H x y v u Q I rx ry h
  obtain ⟨l, b, xs, zs, rfl, rfl, hH, hB, hz, q⟩ := h
  cases rx
  cases ry
  obtain ⟨z, its, n, r, e⟩ := hH.ok I.hok
  obtain ⟨z2, its2, n2, r2, e2⟩ := hB.ok I.hok
  have hl := r.length
  have hl2 := r2.length
  refine PySem.P.add_list e e2 ?_ (by rw [List.size_toArray, List.size_toArray]; omega)
  have ea : its.toArray ++ its2.toArray = (its ++ its2).toArray := by simp
  rw [ea]
  exact ⟨.ref _, _, I.lnew (t' := s.toks) (r.append r2) (by rw [List.length_append]; omega), rfl, q _ I.fresh⟩
theorem oAdd : OpR X (binaryOp .Add) (rG X.K gAdd) := by
  intro pins s σ H x y v u Q I rx ry ⟨F, dx, dy, res, sm, hx, hy, e, q⟩
  unfold gAdd at e
  split at e
  · cases e
    exact op_add pins s σ H x y v u Q I rx ry ⟨_, _, hx.int, hy.int, q.same sm (.int _)⟩
  · split at e
    case isFalse => cases e
    case isTrue hl => cases e; exact op_add_str pins s σ H x y v u Q I rx ry ⟨_, _, hx.str, hy.str, hl, q.same sm (.str _)⟩
  · split at e
    case isFalse => cases e
    case isTrue hl =>
      cases e
      obtain ⟨a, vs, e1, h1, r1⟩ := hx.list sm
      obtain ⟨b, ws, e2, h2, r2⟩ := hy.list sm
      exact cat_rd pins s σ H x y v u Q I rx ry ⟨a, b, vs, ws, e1, e2, h1, h2, by rw [r1.length, r2.length]; exact hl, fun p hp => q.lst sm (r1.app r2) hp⟩
  · split at e
    case isFalse => cases e
    case isTrue hl =>
      cases e
      obtain ⟨a, vs, e1, h1, r1⟩ := hx.tuple sm
      obtain ⟨b, ws, e2, h2, r2⟩ := hy.tuple sm
      have p1 := hx.rp (by intro _ z; cases z) (by intro _ z; cases z)
      have p2 := hy.rp (by intro _ z; cases z) (by intro _ z; cases z)
      refine op_catA pins s σ H x y v u Q I rx ry ⟨a, b, vs, ws, e1, e2, h1, h2, by rw [r1.length, r2.length]; exact hl, fun z => ?_, fun _ z => ?_, fun _ _ p hp => q.tup sm (r1.app r2) hp⟩
      · subst z; cases r1
        exact q.same sm (e2 ▸ p2)
      · subst z; cases r2
        rw [List.append_nil] at q
        exact q.same sm (e1 ▸ p1)
  · cases e
theorem oSub : OpR X (binaryOp .Sub) (rG X.K gSub) := by
  intro pins s σ H x y v u Q I rx ry ⟨F, dx, dy, res, sm, hx, hy, e, q⟩
  unfold gSub at e
  split at e
  · cases e
    exact op_sub pins s σ H x y v u Q I rx ry ⟨_, _, hx.int, hy.int, q.same sm (.int _)⟩
  · cases e
theorem oMul : OpR X (binaryOp .Mult) (rG X.K gMul) := by
  intro pins s σ H x y v u Q I rx ry ⟨F, dx, dy, res, sm, hx, hy, e, q⟩
  unfold gMul at e
  split at e
  · split at e
    case isFalse => cases e
    case isTrue h =>
      cases e
      unfold mulOk at h
      rw [Bool.or_eq_true] at h
      exact op_mul pins s σ H x y v u Q I rx ry ⟨_, _, hx.int, hy.int, h.imp of_decide_eq_true of_decide_eq_true, q.same sm (.int _)⟩
  · cases e
theorem oDiv : OpR X (binaryOp .FloorDiv) (rG X.K gDiv) := by
  intro pins s σ H x y v u Q I rx ry ⟨F, dx, dy, res, sm, hx, hy, e, q⟩
  unfold gDiv at e
  split at e
  · split at e
    case isTrue h => cases e; exact op_fdiv pins s σ H x y v u Q I rx ry ⟨_, _, hx.int, hy.int, h, q.same sm (.int _)⟩
    case isFalse =>
      split at e
      case isTrue h => cases e; exact op_fdivN pins s σ H x y v u Q I rx ry ⟨_, _, hx.int, hy.int, h, q.same sm (.int _)⟩
      case isFalse => cases e
  · cases e
theorem oMod : OpR X (binaryOp .Mod) (rG X.K gMod) := by
  intro pins s σ H x y v u Q I rx ry ⟨F, dx, dy, res, sm, hx, hy, e, q⟩
  unfold gMod at e
  split at e
  · split at e
    case isTrue h => cases e; exact op_mod pins s σ H x y v u Q I rx ry ⟨_, _, hx.int, hy.int, h, q.same sm (.int _)⟩
    case isFalse =>
      split at e
      case isTrue h => cases e; exact op_modN pins s σ H x y v u Q I rx ry ⟨_, _, hx.int, hy.int, h, q.same sm (.int _)⟩
      case isFalse => cases e
  · cases e
theorem oPow : OpR X (binaryOp .Pow) (rG X.K gPow) := by
  intro pins s σ H x y v u Q I rx ry ⟨F, dx, dy, res, sm, hx, hy, e, q⟩
  unfold gPow at e
  split at e
  · split at e
    case isTrue h => cases e; exact op_pow pins s σ H x y v u Q I rx ry ⟨_, _, hx.int, hy.int, h, q.same sm (.int _)⟩
    case isFalse => cases e
  · cases e
theorem oNeg : UnR X (unaryOp .USub) (rG1 X.K gNeg) := by
  intro pins s σ H x v Q I rx ⟨F, dx, res, sm, hx, e, q⟩
  unfold gNeg at e
  split at e
  · cases e
    exact un_neg pins s σ H x v Q I rx ⟨_, hx.int, q.same sm (.int _)⟩
  · cases e
end
/-! ### data without dicts read off the heap -/
mutual
def noD : D → Bool
  | .dict _ => false
  | .list ds => noDA ds
  | .tuple ds => noDA ds
  | _ => true
def noDA : List D → Bool
  | [] => true
  | d :: ds => noD d && noDA ds
end
mutual
theorem Rp.dp {K : PySem.W.Frag} {F H : Hp} (s : Same F H) : ∀ {v : V} {d : D}, Rp K F v d → noD d = true → Dp K H v d
  | _, _, .non, _ => .non
  | _, _, .bl b, _ => .bl b
  | _, _, .int i, _ => .int i
  | _, _, .str x, _ => .str x
  | _, _, .lst h t, n => .lst (.inl (rd_mono s h)) (RpA.dp s t (by simpa [noD] using n))
  | _, _, .tup h t, n => .tup (sqT_mono s h) (RpA.dp s t (by simpa [noD] using n))
  | _, _, .dct h t, n => by simp [noD] at n
theorem RpA.dp {K : PySem.W.Frag} {F H : Hp} (s : Same F H) : ∀ {v : List V} {d : List D}, RpA K F v d → noDA d = true → DpAll K H v d
  | _, _, .nil, _ => .nil
  | _, _, .cons h t, n => by
    rw [noDA, Bool.and_eq_true] at n
    exact .cons (Rp.dp s h n.1) (RpA.dp s t n.2)
end
mutual
theorem noD_lay : ∀ d : D, d.canLay0 = true → noD d = true
  | .none, _ => by simp [noD]
  | .bool _, _ => by simp [noD]
  | .int _, _ => by simp [noD]
  | .str _, _ => by simp [noD]
  | .list ds, h => by simp only [noD]; exact noDA_lay ds (by simpa [PyData.canLay0] using h)
  | .tuple ds, h => by simp only [noD]; exact noDA_lay ds (by simpa [PyData.canLay0] using h)
  | .dict _, h => by simp [PyData.canLay0] at h
theorem noDA_lay : ∀ ds : List D, PyData.canLayAll0 ds = true → noDA ds = true
  | [], _ => by simp [noDA]
  | d :: ds, h => by
    rw [PyData.canLayAll0, Bool.and_eq_true] at h
    rw [noDA, noD_lay d h.1, noDA_lay ds h.2]; rfl
end
theorem noD_shaped {d : D} (h : SeqAt.shaped d = true) : noD d = true := noD_lay d (SeqAt.canLay_of_shaped h)
theorem Vw.dp {K : PySem.W.Frag} {F H : Hp} {v : V} {d : D} (s : Same F H) (h : Vw K F H v d) (n : noD d = true) : Dp K H v d := by
  rcases h with h | ⟨a, rfl, o⟩
  · exact h.dp s n
  · cases d with
    | list ds => obtain ⟨vs, e, r⟩ := o; exact .lst (.inl (.inl e)) (r.dp s (by simpa [noD] using n))
    | dict ds => simp [noD] at n
    | _ => exact o.elim
/-! ### comparisons -/
def gEq : D → D → Option Bool
  | .int i, .int j => some (i == j)
  | .str i, .str j => some (i == j)
  | .bool i, .bool j => some (i == j)
  | x, y => if SeqAt.shaped x && SeqAt.shaped y then some (PyData.eqv x y) else none
def gNe (x y : D) : Option Bool := (gEq x y).map fun b => !b
def isNone : D → Bool
  | .none => true
  | _ => false
def cmpOk (x y : D) : Bool := PySem.W.alike x y && !isNone x && noD x && noD y && decide (x.depth ≤ 64)
def gLt : D → D → Option Bool
  | .int i, .int j => some (decide (i < j))
  | x, y => if cmpOk x y then some (PySem.W.dataLt x y) else none
def gLe : D → D → Option Bool
  | .int i, .int j => some (decide (i ≤ j))
  | x, y => if cmpOk x y then some (!PySem.W.dataLt y x) else none
def gGt : D → D → Option Bool
  | .int i, .int j => some (decide (j < i))
  | x, y => if cmpOk x y then some (PySem.W.dataLt y x) else none
def gGe : D → D → Option Bool
  | .int i, .int j => some (decide (j ≤ i))
  | x, y => if cmpOk x y then some (!PySem.W.dataLt x y) else none
theorem map_b {o : Option Bool} {res : Rs} (e : o.map (fun k => Rs.fz (.bool k)) = some res) : ∃ k, o = some k ∧ res = .fz (.bool k) := by
  cases o with
  | none => cases e
  | some k => cases e; exact ⟨k, rfl, rfl⟩
section
variable {X : Cx}
theorem oEq (hu : X.A.units + 64 < cLine) : OpR X (compareOp .Eq) (rG X.K (gB gEq)) := by
  intro pins s σ H x y v u Q I rx ry ⟨F, dx, dy, res, sm, hx, hy, e, q⟩
  obtain ⟨k, e0, rfl⟩ := map_b e
  clear e
  have e := e0
  clear e0
  unfold gEq at e
  split at e
  · cases e
    refine op_eq pins s σ H x y v u Q I rx ry ⟨by rw [hx.int, hy.int]; rfl, ?_⟩
    rw [hx.int, hy.int, dec_int]; exact q.same sm (.bl _)
  · cases e
    refine op_eq pins s σ H x y v u Q I rx ry ⟨by rw [hx.str, hy.str]; rfl, ?_⟩
    rw [hx.str, hy.str, dec_str]; exact q.same sm (.bl _)
  · cases e
    refine op_eq pins s σ H x y v u Q I rx ry ⟨by rw [hx.bool, hy.bool]; rfl, ?_⟩
    rw [hx.bool, hy.bool, dec_bl]; exact q.same sm (.bl _)
  · split at e
    case isFalse => cases e
    case isTrue h =>
      cases e
      rw [Bool.and_eq_true] at h
      exact op_eqD hu pins s σ H x y v u Q I rx ry ⟨_, _, hx.dp sm (noD_shaped h.1), hy.dp sm (noD_shaped h.2), h.1, h.2, q.same sm (.bl _)⟩
theorem oNe (hu : X.A.units + 64 < cLine) : OpR X (compareOp .NotEq) (rG X.K (gB gNe)) := by
  intro pins s σ H x y v u Q I rx ry ⟨F, dx, dy, res, sm, hx, hy, e, q⟩
  obtain ⟨k, e0, rfl⟩ := map_b e
  clear e
  have e := e0
  clear e0
  unfold gNe at e
  obtain ⟨k', e0, rfl⟩ : ∃ k', gEq dx dy = some k' ∧ k = !k' := by
    cases h : gEq dx dy with
    | none => rw [h] at e; cases e
    | some k' => rw [h] at e; cases e; exact ⟨k', rfl, rfl⟩
  clear e
  have e := e0
  clear e0
  unfold gEq at e
  split at e
  · cases e
    refine op_ne pins s σ H x y v u Q I rx ry ⟨by rw [hx.int, hy.int]; rfl, ?_⟩
    rw [hx.int, hy.int, dec_int]; exact q.same sm (.bl _)
  · cases e
    refine op_ne pins s σ H x y v u Q I rx ry ⟨by rw [hx.str, hy.str]; rfl, ?_⟩
    rw [hx.str, hy.str, dec_str]; exact q.same sm (.bl _)
  · cases e
    refine op_ne pins s σ H x y v u Q I rx ry ⟨by rw [hx.bool, hy.bool]; rfl, ?_⟩
    rw [hx.bool, hy.bool, dec_bl]; exact q.same sm (.bl _)
  · split at e
    case isFalse => cases e
    case isTrue h =>
      cases e
      rw [Bool.and_eq_true] at h
      exact op_neD hu pins s σ H x y v u Q I rx ry ⟨_, _, hx.dp sm (noD_shaped h.1), hy.dp sm (noD_shaped h.2), h.1, h.2, q.same sm (.bl _)⟩
theorem cmp_room {x y : D} (h : cmpOk x y = true) (hu : X.A.units + 64 < cLine) : PySem.W.alike x y = true ∧ x ≠ .none ∧ noD x = true ∧ noD y = true ∧ X.A.units + min x.depth y.depth < cLine := by
  unfold cmpOk at h
  simp only [Bool.and_eq_true, decide_eq_true_eq] at h
  obtain ⟨⟨⟨⟨h1, h2⟩, h3⟩, h4⟩, h5⟩ := h
  refine ⟨h1, fun z => ?_, h3, h4, ?_⟩
  · subst z; simp [isNone] at h2
  · have := Nat.min_le_left x.depth y.depth
    omega
theorem oGt (hu : X.A.units + 64 < cLine) : OpR X (compareOp .Gt) (rG X.K (gB gGt)) := by
  intro pins s σ H x y v u Q I rx ry ⟨F, dx, dy, res, sm, hx, hy, e, q⟩
  obtain ⟨k, e0, rfl⟩ := map_b e
  clear e
  have e := e0
  clear e0
  unfold gGt at e
  split at e
  · cases e
    exact op_gt pins s σ H x y v u Q I rx ry ⟨_, _, hx.int, hy.int, q.same sm (.bl _)⟩
  · split at e
    case isFalse => cases e
    case isTrue h =>
      cases e
      obtain ⟨h1, h2, h3, h4, h5⟩ := cmp_room h hu
      obtain ⟨as, r1⟩ := Dp.reads I _ x v (hx.dp sm h3) rx
      obtain ⟨bs, r2⟩ := Dp.reads I _ y u (hy.dp sm h4) ry
      exact PySem.W.gt_data r1 r2 h1 h2 h5 ⟨.bl _, H, I, rfl, q.same sm (.bl _)⟩
theorem oLe (hu : X.A.units + 64 < cLine) : OpR X (compareOp .LtE) (rG X.K (gB gLe)) := by
  intro pins s σ H x y v u Q I rx ry ⟨F, dx, dy, res, sm, hx, hy, e, q⟩
  obtain ⟨k, e0, rfl⟩ := map_b e
  clear e
  have e := e0
  clear e0
  unfold gLe at e
  split at e
  · cases e
    exact op_le pins s σ H x y v u Q I rx ry ⟨_, _, hx.int, hy.int, q.same sm (.bl _)⟩
  · split at e
    case isFalse => cases e
    case isTrue h =>
      cases e
      obtain ⟨h1, h2, h3, h4, h5⟩ := cmp_room h hu
      obtain ⟨as, r1⟩ := Dp.reads I _ x v (hx.dp sm h3) rx
      obtain ⟨bs, r2⟩ := Dp.reads I _ y u (hy.dp sm h4) ry
      exact PySem.W.le_data r1 r2 h1 h2 h5 ⟨.bl _, H, I, rfl, q.same sm (.bl _)⟩
theorem oGe (hu : X.A.units + 64 < cLine) : OpR X (compareOp .GtE) (rG X.K (gB gGe)) := by
  intro pins s σ H x y v u Q I rx ry ⟨F, dx, dy, res, sm, hx, hy, e, q⟩
  obtain ⟨k, e0, rfl⟩ := map_b e
  clear e
  have e := e0
  clear e0
  unfold gGe at e
  split at e
  · cases e
    exact op_ge pins s σ H x y v u Q I rx ry ⟨_, _, hx.int, hy.int, q.same sm (.bl _)⟩
  · split at e
    case isFalse => cases e
    case isTrue h =>
      cases e
      obtain ⟨h1, h2, h3, h4, h5⟩ := cmp_room h hu
      obtain ⟨as, r1⟩ := Dp.reads I _ x v (hx.dp sm h3) rx
      obtain ⟨bs, r2⟩ := Dp.reads I _ y u (hy.dp sm h4) ry
      exact PySem.W.ge_data r1 r2 h1 h2 h5 ⟨.bl _, H, I, rfl, q.same sm (.bl _)⟩
end
end DL
namespace DL
open PySem PySem.Spec PyProof.Rows L2
section
variable {K : PySem.W.Frag} {F H F' H' : Hp} {σ σ' : SS} {ρ ρ' : List Sl}
/-! ### items -/
theorem rpA_atI {vs : List V} {ds : List D} {i : Int} {d : D} (h : RpA K F vs ds) (e : atI ds i = some d) : ∃ v, atI vs i = some v ∧ Rp K F v d := by
  unfold atI at e ⊢
  rw [h.length]
  cases q : ixN ds.length i with
  | none => rw [q] at e; cases e
  | some j =>
    rw [q] at e
    have e : ds[j]? = some d := e
    have hj : j < vs.length := by rw [h.length]; exact (List.getElem?_eq_some_iff.mp e).1
    exact ⟨vs[j], List.getElem?_eq_getElem hj, h.get (List.getElem?_eq_getElem hj) e⟩
def keyEq (k : Key) : D → Bool
  | .int j => match k with
    | .inl i => i == j
    | _ => false
  | .str y => match k with
    | .inr x => x == y
    | _ => false
  | _ => false
def dget (k : Key) : List (D × D) → Option D
  | [] => none
  | p :: r => if keyEq k p.1 then some p.2 else dget k r
def dput (k : Key) (d : D) (kvs : List (D × D)) : List (D × D) :=
  if (kvs.any fun p => keyEq k p.1) = true then kvs.map (fun p => if keyEq k p.1 then (p.1, d) else p) else kvs ++ [(kD k, d)]
def keyOf : D → Option Key
  | .int i => some (.inl i)
  | .str x => some (.inr x)
  | _ => none
theorem keyEq_kD (k j : Key) : keyEq k (kD j) = decide (j = k) := by
  cases k with
  | inl i =>
    cases j with
    | inl m =>
      show (i == m) = _
      by_cases h : i = m
      · subst h; simp
      · rw [decide_eq_false (fun z => h (Sum.inl.inj z).symm)]; simpa using h
    | inr y => rfl
  | inr x =>
    cases j with
    | inl m => rfl
    | inr y =>
      show (x == y) = _
      by_cases h : x = y
      · subst h; simp
      · rw [decide_eq_false (fun z => h (Sum.inr.inj z).symm)]; simpa using h
theorem dgetR {H : Hp} {a : Addr} {kvs : List (Key × V)} {k : Key} (e : Rd H a (.dK kvs)) : DGet H a (kV k) (valV kvs k) := .inl ⟨kvs, k, e, rfl, rfl⟩
theorem keyOf_some {d : D} {k : Key} (h : keyOf d = some k) : d = kD k := by
  cases d with
  | int i => cases h; rfl
  | str x => cases h; rfl
  | _ => cases h
theorem Vw.key {v : V} {d : D} {k : Key} (h : Vw K F H v d) (e : keyOf d = some k) : v = kV k := by
  have := keyOf_some e
  subst this
  cases k with
  | inl i => exact h.int
  | inr x => exact h.str
theorem rpK_get {k : Key} : ∀ {kvs : List (Key × V)} {ds : List (D × D)}, RpK K F kvs ds → (∀ d, dget k ds = some d → ∃ v, valV kvs k = some v ∧ Rp K F v d) ∧ (dget k ds = none → valV kvs k = none)
  | _, _, .nil => ⟨fun d (e : none = some d) => (nomatch e), fun _ => rfl⟩
  | _, _, .cons (k := j) (v := v) (d := d) h t => by
    obtain ⟨h1, h2⟩ := rpK_get t
    unfold dget
    simp only [keyEq_kD]
    by_cases e : j = k
    · simp only [decide_eq_true e, if_true]
      exact ⟨fun d' e' => by cases e'; exact ⟨v, valV_pos e, h⟩, fun e' => by cases e'⟩
    · simp only [decide_eq_false e]
      rw [valV_neg (p := (j, v)) e]
      exact ⟨h1, h2⟩
theorem rpK_any {k : Key} : ∀ {kvs : List (Key × V)} {ds : List (D × D)}, RpK K F kvs ds → (kvs.any fun kv => decide (kv.1 = k)) = ds.any fun p => keyEq k p.1
  | _, _, .nil => rfl
  | _, _, .cons h t => by rw [List.any_cons, List.any_cons, rpK_any t, keyEq_kD]
theorem rpK_map {k : Key} {v : V} {d : D} (r : Rp K F v d) : ∀ {kvs : List (Key × V)} {ds : List (D × D)}, RpK K F kvs ds → RpK K F (kvs.map fun kv => if kv.1 = k then (kv.1, v) else kv) (ds.map fun p => if keyEq k p.1 then (p.1, d) else p)
  | _, _, .nil => .nil
  | _, _, .cons (k := j) h t => by
    rw [List.map_cons, List.map_cons]
    simp only [keyEq_kD]
    by_cases e : j = k
    · simp only [e, if_true, decide_true]; exact .cons r (rpK_map r t)
    · simp only [decide_eq_false e, if_neg e]; exact .cons h (rpK_map r t)
theorem RpK.snoc {k : Key} {v : V} {d : D} (r : Rp K F v d) : ∀ {kvs : List (Key × V)} {ds : List (D × D)}, RpK K F kvs ds → RpK K F (kvs ++ [(k, v)]) (ds ++ [(kD k, d)])
  | _, _, .nil => .cons r .nil
  | _, _, .cons h t => .cons h (RpK.snoc r t)
theorem rpK_put {kvs : List (Key × V)} {ds : List (D × D)} {k : Key} {v : V} {d : D} (h : RpK K F kvs ds) (r : Rp K F v d) : RpK K F (putK kvs k v) (dput k d ds) := by
  unfold putK dput
  rw [rpK_any h]
  split
  · exact rpK_map r h
  · exact h.snoc r
def cutD (ds : List D) (lo hi : Option Int) : List D := (ds.drop (HT.sIx ds.length 0 lo)).take (HT.sIx ds.length ds.length hi - HT.sIx ds.length 0 lo)
theorem rpA_cut {vs : List V} {ds : List D} (h : RpA K F vs ds) (lo hi : Option Int) : RpA K F (cutV vs lo hi) (cutD ds lo hi) := by
  unfold cutV cutD
  rw [h.length]
  exact (h.drop _).take _
def gIx : G2
  | .list ds, .int i => (atI ds i).map .fz
  | .tuple ds, .int i => (atI ds i).map .fz
  | .str z, .int i => if z.length ≤ sizeLine then (atI z.cps.toList i).map fun c => .fz (.str ⟨#[c]⟩) else none
  | .dict kvs, k => (keyOf k).bind fun k => (dget k kvs).map .fz
  | _, _ => none
def gSl (d : D) (lo hi : Option Int) : Option Rs := match d with
  | .list ds => some (.ow (.list (cutD ds lo hi)))
  | .tuple ds => some (.fz (.tuple (cutD ds lo hi)))
  | .str z => if z.length ≤ sizeLine then some (.fz (.str (cutS z lo hi))) else none
  | _ => none
section
variable {X : Cx}
theorem opt_map {α β : Type} {o : Option α} {f : α → β} {b : β} (e : o.map f = some b) : ∃ a, o = some a ∧ f a = b := by
  cases o with
  | none => cases e
  | some a => cases e; exact ⟨a, rfl, rfl⟩
theorem oIx (hu : X.A.units + 1 < cLine) : IxR X (rG X.K gIx) := by
  intro value slice pins s σ H x y v u Q I rx ry ⟨F, dx, dy, res, sm, hx, hy, e, q⟩ hs
  unfold gIx at e
  split at e
  · obtain ⟨d, e1, rfl⟩ := opt_map e
    obtain ⟨a, vs, ev, h1, r1⟩ := hx.list sm
    obtain ⟨z, e2, rz⟩ := rpA_atI r1 e1
    exact ix_list value slice pins s σ H x y v u Q I rx ry ⟨a, vs, _, z, ev, hy.int, .inl h1, e2, q.same sm rz⟩ hs
  · obtain ⟨d, e1, rfl⟩ := opt_map e
    obtain ⟨a, vs, ev, h1, r1⟩ := hx.tuple sm
    obtain ⟨z, e2, rz⟩ := rpA_atI r1 e1
    exact ix_tup value slice pins s σ H x y v u Q I rx ry ⟨a, vs, _, z, ev, hy.int, h1, e2, q.same sm rz⟩ hs
  · split at e
    case isFalse => cases e
    case isTrue hz =>
      obtain ⟨c, e1, rfl⟩ := opt_map e
      exact ix_str value slice pins s σ H x y v u Q I rx ry ⟨_, _, c, hx.str, hy.int, hz, e1, q.same sm (.str _)⟩ hs
  · cases ek : keyOf dy with
    | none => rw [ek] at e; cases e
    | some k =>
      rw [ek] at e
      obtain ⟨d, e1, rfl⟩ := opt_map e
      obtain ⟨a, kvs, rfl, h1, r1⟩ := hx.dict sm
      obtain ⟨z, e2, rz⟩ := (rpK_get r1).1 d e1
      have hk := hy.key ek
      subst hk
      cases rx
      have g : DGet H a (kV k) (some z) := e2 ▸ dgetR h1
      exact tail_any (dict_typeIs I g) PySem.F.slot_dict_getitem.lookup (d_getItem hu I g ry fun w' s3 I3 rw' => ⟨z, H, I3, rw', q.same sm rz⟩) hs
  · cases e
theorem oSl : SlR X (fun x lo hi H Q => ∃ F dx res, Same F H ∧ Vw X.K F H x dx ∧ gSl dx lo hi = some res ∧ NewR X.K F H res Q) := by
  intro pins s σ H x v vl vu lo hi sl Q I rx hs pl pu ⟨F, dx, res, sm, hx, e, q⟩
  unfold gSl at e
  split at e
  · cases e
    obtain ⟨a, vs, ev, h1, r1⟩ := hx.list sm
    exact sl_list pins s σ H x v vl vu lo hi sl Q I rx hs pl pu ⟨a, vs, ev, .inl h1, fun p hp => q.lst sm (rpA_cut r1 lo hi) hp⟩
  · cases e
    obtain ⟨a, vs, ev, h1, r1⟩ := hx.tuple sm
    refine sl_tupA pins s σ H x v vl vu lo hi sl Q I rx hs pl pu ⟨a, vs, ev, h1, fun z => ?_, fun _ p hp => q.tup sm (rpA_cut r1 lo hi) hp⟩
    have hp := hx.rp (by intro _ z; cases z) (by intro _ z; cases z)
    subst ev
    refine q.same sm ?_
    rename_i ds
    have : cutD ds lo hi = ds := by
      unfold cutD
      rw [← r1.length, z.1, z.2, List.drop_zero, Nat.sub_zero, r1.length, List.take_length]
    rw [this]; exact hp
  · split at e
    case isFalse => cases e
    case isTrue hz =>
      cases e
      exact sl_str pins s σ H x v vl vu lo hi sl Q I rx hs pl pu ⟨_, hx.str, hz, q.same sm (.str _)⟩
  · cases e
end
theorem sem_ix {g : G2} {fa fb : M Rs} : ∀ σ H Q, tSem K (dOp2 g fa fb) σ H Q → tOp (rG K g) (tSem K fa) (tSem K fb) σ H Q := sem_op2 op2G
/-- a part of a slice -/
def tSemO (K : PySem.W.Frag) (f : M (Option Int)) : TO := fun σ H Q => ∃ F ρ r ρ', Sta K F H σ ρ ∧ f ρ = .ok r ρ' ∧ ∀ F' H', Ext K F H σ ρ F' H' σ ρ' → Q r H'
def dNoP : M (Option Int) := pr none
def dPart (f : M Rs) : M (Option Int) := bd f fun r => bd (look r) fun d => opt (match d with
  | .int i => some (some i)
  | _ => none)
theorem poWeak {X : Cx} {e : Option Expr} {t t' : TO} (h : PO X e t) (w : ∀ σ H Q, t' σ H Q → t σ H Q) : PO X e t' :=
  ⟨fun pins s σ H Q I q => h.run pins s σ H Q I (w σ H Q q)⟩
def dSl (fa : M Rs) (fl fh : M (Option Int)) : M Rs := bd fa fun ra => bd fl fun l => bd fh fun h => bd (look ra) fun d => opt (gSl d l h)
theorem sem_sl {fa : M Rs} {fl fh : M (Option Int)} : ∀ σ H Q, tSem K (dSl fa fl fh) σ H Q → tSl (fun x lo hi H Q => ∃ F dx res, Same F H ∧ Vw K F H x dx ∧ gSl dx lo hi = some res ∧ NewR K F H res Q) (tSem K fa) (tSemO K fl) (tSemO K fh) σ H Q := fun σ H Q ⟨F, ρ, res, ρ', s, e, k⟩ => by
  obtain ⟨ra, ρ1, e1, e⟩ := bd_ok e
  obtain ⟨l, ρ2, e2, e⟩ := bd_ok e
  obtain ⟨h, ρ3, e3, e⟩ := bd_ok e
  obtain ⟨d, ρ4, e4, e⟩ := bd_ok e
  obtain ⟨eg, e5⟩ := opt_ok e
  refine ⟨F, ρ, ra, ρ1, s, e1, fun F1 H1 x x1 r1 => ⟨F1, ρ1, l, ρ2, x1.st, e2, fun F2 H2 x2 => ⟨F2, ρ2, h, ρ3, x2.st, e3, fun F3 H3 x3 => ?_⟩⟩⟩
  have x23 := x2.trans x3
  obtain ⟨e4', w⟩ := look_ok x3.st (r1.ext x23) e4
  subst e4'; subst e5
  refine ⟨F3, d, res, x3.st.le, w, eg, fun F4 H4 v g hr => ?_⟩
  have y := x1.trans x23
  exact k F4 H4 v (y.trans (x3.st.grow g)) (x3.st.res g hr fun a z => y.back z)
section
variable {X : Cx} {a b : Expr} {fa fb : M Rs} {lo hi : Option Expr} {fl fh : M (Option Int)} {pos p2 : Pos}
theorem eix (hu : X.A.units + 1 < cLine) (ha : PE X a (tSem X.K fa)) (hb : PE X b (tSem X.K fb)) (hs : PlainIx b := by exact fun _ _ => rfl) : PE X (.Subscript a b pos) (tSem X.K (dOp2 gIx fa fb)) := peWeak (pe_ix (oIx hu) ha hb hs) sem_ix
theorem pn : PO X none (tSemO X.K dNoP) := poWeak po_none fun σ H Q ⟨F, ρ, r, ρ', s, e, k⟩ => by cases e; exact k F H (Ext.refl s)
theorem pp (h : PE X a (tSem X.K fa)) : PO X (some a) (tSemO X.K (dPart fa)) := poWeak (po_some h) fun σ H Q ⟨F, ρ, r, ρ', s, e, k⟩ => by
  obtain ⟨ra, ρ1, e1, e⟩ := bd_ok e
  obtain ⟨d, ρ4, e4, e⟩ := bd_ok e
  obtain ⟨eg, e5⟩ := opt_ok e
  refine ⟨F, ρ, ra, ρ1, s, e1, fun F1 H1 x x1 r1 => ?_⟩
  obtain ⟨e4', w⟩ := look_ok x1.st r1 e4
  subst e4'; subst e5
  split at eg
  · cases eg; exact ⟨_, w.int, k F1 H1 x1⟩
  · cases eg
theorem esl (ha : PE X a (tSem X.K fa)) (hl : PO X lo (tSemO X.K fl)) (hh : PO X hi (tSemO X.K fh)) : PE X (.Subscript a (.Slice lo hi none p2) pos) (tSem X.K (dSl fa fl fh)) := peWeak (pe_slice oSl ha hl hh) sem_sl
end
/-! ### calls of built-ins -/
def gLen : List D → Option Rs
  | [.list ds] => some (.fz (.int ds.length))
  | [.tuple ds] => some (.fz (.int ds.length))
  | [.str z] => if z.length ≤ sizeLine then some (.fz (.int z.length)) else none
  | [.dict kvs] => some (.fz (.int kvs.length))
  | _ => none
def gAbs : List D → Option Rs
  | [.int i] => some (.fz (.int (if i < 0 then -i else i)))
  | _ => none
def gInt : List D → Option Rs
  | [.int i] => some (.fz (.int i))
  | [.bool k] => some (.fz (.int (if k then 1 else 0)))
  | [.str a] => if a.length ≤ 640 then (intText? a).map fun n => .fz (.int n) else none
  | _ => none
def gTuple : List D → Option Rs
  | [.list ds] => some (.fz (.tuple ds))
  | [.tuple ds] => some (.fz (.tuple ds))
  | _ => none
def gList : List D → Option Rs
  | [.list ds] => some (.ow (.list ds))
  | [.tuple ds] => some (.ow (.list ds))
  | _ => none
def intsOf : List D → Option (List Int)
  | [] => some []
  | .int i :: ds => (intsOf ds).map fun ns => i :: ns
  | _ :: _ => none
theorem intsOf_ok : ∀ {ds : List D} {ns : List Int}, intsOf ds = some ns → ds = ns.map .int
  | [], ns, h => by cases h; rfl
  | d :: ds, ns, h => by
    cases d with
    | int i =>
      obtain ⟨ms, e, rfl⟩ := opt_map (show (intsOf ds).map (fun ns => i :: ns) = some ns from h)
      rw [List.map_cons, intsOf_ok e]
    | _ => cases h
theorem intsOf_map : ∀ ns : List Int, intsOf (ns.map .int) = some ns
  | [] => rfl
  | n :: ns => by rw [List.map_cons]; show (intsOf (ns.map .int)).map _ = _; rw [intsOf_map ns]; rfl
def maxL : List Int → Int
  | [] => 0
  | [a] => a
  | a :: b :: r => max a (maxL (b :: r))
def minL : List Int → Int
  | [] => 0
  | [a] => a
  | a :: b :: r => min a (minL (b :: r))
theorem minL_spec : ∀ {ns : List Int}, ns ≠ [] → minL ns ∈ ns ∧ ∀ y ∈ ns, minL ns ≤ y
  | [], h => absurd rfl h
  | [a], _ => by simp [minL]
  | a :: b :: r, _ => by
    obtain ⟨h1, h2⟩ := minL_spec (ns := b :: r) (by simp)
    unfold minL
    refine ⟨?_, fun y hy => ?_⟩
    · rcases Int.le_total a (minL (b :: r)) with z | z
      · rw [Int.min_eq_left z]; exact List.mem_cons_self
      · rw [Int.min_eq_right z]; exact List.mem_cons_of_mem _ h1
    · rcases List.mem_cons.mp hy with z | z
      · rw [z]; exact Int.min_le_left _ _
      · exact Int.le_trans (Int.min_le_right _ _) (h2 y z)
def gMax : List D → Option Rs
  | [.int i, .int j] => some (.fz (.int (if j > i then j else i)))
  | [.list ds] => (intsOf ds).bind fun ns => if ns = [] then none else some (.fz (.int (maxL ns)))
  | _ => none
def gMin : List D → Option Rs
  | [.int i, .int j] => some (.fz (.int (if j < i then j else i)))
  | [.list ds] => (intsOf ds).bind fun ns => if ns = [] then none else some (.fz (.int (minL ns)))
  | _ => none
def gSum : List D → Option Rs
  | [.list ds] => (intsOf ds).map fun ns => .fz (.int ns.sum)
  | [.tuple ds] => (intsOf ds).map fun ns => .fz (.int ns.sum)
  | _ => none
def sortOk (ds : List D) : Bool := ds.all (fun d => ds.all fun e => PySem.W.alike d e) && ds.all noD && (ds.all (fun d => match d with
  | .tuple (_ :: _) => true
  | _ => false) || ds.all (fun d => match d with
  | .none => false
  | .tuple _ => false
  | _ => true)) && ds.all (fun d => decide (d.depth ≤ 60)) && decide (ds.length ≤ sizeLine)
section
variable {X : Cx}
theorem cLen : CallR X (.builtin "len") (rGN X.K gLen) := by
  intro pins s σ H xs us Q I r ⟨F, ds, res, sm, hx, e, q⟩
  unfold gLen at e
  split at e
  · cases e
    obtain ⟨x, rfl, hw⟩ := hx.one
    obtain ⟨a, vs, ev, h1, r1⟩ := hw.list sm
    subst ev
    exact call_len_seq pins s σ H _ us Q I r ⟨a, vs, rfl, .inl (.inl h1), q.same sm (by rw [r1.length]; exact .int _)⟩
  · cases e
    obtain ⟨x, rfl, hw⟩ := hx.one
    obtain ⟨a, vs, ev, h1, r1⟩ := hw.tuple sm
    subst ev
    exact call_len_seq pins s σ H _ us Q I r ⟨a, vs, rfl, .inr h1, q.same sm (by rw [r1.length]; exact .int _)⟩
  · split at e
    case isFalse => cases e
    case isTrue hz =>
      cases e
      obtain ⟨x, rfl, hw⟩ := hx.one
      exact call_len_str pins s σ H _ us Q I r ⟨_, by rw [hw.str], hz, q.same sm (.int _)⟩
  · cases e
    obtain ⟨x, rfl, hw⟩ := hx.one
    obtain ⟨a, kvs, ev, h1, r1⟩ := hw.dict sm
    subst ev
    obtain ⟨u, rfl, rx⟩ := vals1 r
    cases rx
    exact d_len I h1 fun t s' I' => ⟨.int kvs.length, H, I', ⟨t, rfl⟩, q.same sm (by rw [r1.length]; exact .int _)⟩
  · cases e
theorem cAbs : CallR X (.builtin "abs") (rGN X.K gAbs) := by
  intro pins s σ H xs us Q I r ⟨F, ds, res, sm, hx, e, q⟩
  unfold gAbs at e
  split at e
  · cases e
    obtain ⟨x, rfl, hw⟩ := hx.one
    exact call_abs pins s σ H _ us Q I r ⟨_, by rw [hw.int], q.same sm (.int _)⟩
  · cases e
theorem cInt : CallR X (.type "int") (rGN X.K gInt) := by
  intro pins s σ H xs us Q I r ⟨F, ds, res, sm, hx, e, q⟩
  unfold gInt at e
  split at e
  · cases e
    obtain ⟨x, rfl, hw⟩ := hx.one
    exact call_int1 pins s σ H _ us Q I r (.inl ⟨_, by rw [hw.int], q.same sm (.int _)⟩)
  · cases e
    obtain ⟨x, rfl, hw⟩ := hx.one
    exact call_int1 pins s σ H _ us Q I r (.inr ⟨_, by rw [hw.bool], q.same sm (.int _)⟩)
  · split at e
    case isFalse => cases e
    case isTrue hl =>
      obtain ⟨n, e1, rfl⟩ := opt_map e
      obtain ⟨x, rfl, hw⟩ := hx.one
      exact call_int_str pins s σ H _ us Q I r ⟨_, n, by rw [hw.str], e1, hl, q.same sm (.int _)⟩
  · cases e
theorem cTuple : CallR X (.type "tuple") (rGN X.K gTuple) := by
  intro pins s σ H xs us Q I r ⟨F, ds, res, sm, hx, e, q⟩
  unfold gTuple at e
  split at e
  · cases e
    obtain ⟨x, rfl, hw⟩ := hx.one
    obtain ⟨a, vs, ev, h1, r1⟩ := hw.list sm
    subst ev
    exact call_tuple_of pins s σ H _ us Q I r ⟨a, vs, rfl, .inl ⟨.inl h1, fun p hp => q.tup sm r1 hp⟩⟩
  · cases e
    obtain ⟨x, rfl, hw⟩ := hx.one
    obtain ⟨a, vs, ev, h1, r1⟩ := hw.tuple sm
    have hp := hw.rp (by intro _ z; cases z) (by intro _ z; cases z)
    subst ev
    exact call_tuple_of pins s σ H _ us Q I r ⟨a, vs, rfl, .inr ⟨h1, q.same sm hp⟩⟩
  · cases e
theorem opt_bind {α β : Type} {o : Option α} {f : α → Option β} {b : β} (e : o.bind f = some b) : ∃ a, o = some a ∧ f a = some b := by
  cases o with
  | none => cases e
  | some a => exact ⟨a, rfl, e⟩
theorem pos_of {α : Type} {ns : List α} (h : ¬ ns = []) : 0 < ns.length := by
  cases ns with
  | nil => exact absurd rfl h
  | cons a r => simp
theorem cMin (hc : X.calm = true) : CallR X (.builtin "min") (rGN X.K gMin) := by
  intro pins s σ H xs us Q I r ⟨F, ds, res, sm, hx, e, q⟩
  unfold gMin at e
  split at e
  · cases e
    obtain ⟨x, y, rfl, hw, hv⟩ := hx.two
    exact call_min2 hc pins s σ H _ us Q I r ⟨_, _, by rw [hw.int, hv.int], q.same sm (.int _)⟩
  · obtain ⟨ns, e1, e2⟩ := opt_bind e
    split at e2
    case isTrue => cases e2
    case isFalse hn =>
      cases e2
      obtain ⟨x, rfl, hw⟩ := hx.one
      rw [intsOf_ok e1] at hw
      obtain ⟨a, vs, ev, h1, r1⟩ := hw.list sm
      subst ev
      rw [r1.ints] at h1
      obtain ⟨m1, m2⟩ := minL_spec hn
      refine cr_min hc pins s σ H _ us Q I r ⟨a, ns, rfl, .inl h1, pos_of hn, fun m hm hle => ?_⟩
      have : m = minL ns := Int.le_antisymm (hle _ m1) (m2 m hm)
      subst this
      exact q.same sm (.int _)
  · cases e
end
end
end DL
namespace DL
open PySem PySem.Spec PyProof.Rows L2
section
variable {K : PySem.W.Frag} {F H F' H' : Hp} {σ σ' : SS} {ρ ρ' : List Sl}
/-! ### sorted -/
/-! ### methods that change what a slot holds -/
def MutOk (K : PySem.W.Frag) (r : V → List V → Hp → VK → Prop) (fr : Bool) (g : D → List D → Option (D × D)) : Prop :=
  ∀ (F H : Hp) (a : Addr) (d d' res : D) (ds : List D) (xs : List V) (Q : VK), Same F H → F a = none → Ob K F H a d → (if fr = true then RpA K F xs ds else VwA K F H xs ds) → g d ds = some (d', res) →
    (∀ o' v, Ob K F (upd H a o') a d' → Rp K F v res → Q v (upd H a o')) → r (.ref a) xs H Q
def isLst : D → Bool
  | .list _ => true
  | _ => false
def dMut (i : Nat) (c : D → Bool) (fr : Bool) (g : D → List D → Option (D × D)) (f : M (List Rs)) : M Rs := fun ρ => match ρ[i]? with
  | some (.ow d0) => if c d0 = true then bd f (fun rs => bd (if fr = true then frzA rs else lookA rs) fun ds => fun ρ1 => match ρ1[i]? with
    | some (.ow d) => match g d ds with
      | some (d', res) => .ok (.fz res) (ρ1.set i (.ow d'))
      | none => .bad
    | _ => .bad) ρ else .bad
  | _ => .bad
theorem Ext.updSlot {F₀ H₀ : Hp} {σ₀ : SS} {ρ₀ : List Sl} {i : Nat} {a : Addr} {d d' : D} {o : HO} (x : Ext K F₀ H₀ σ₀ ρ₀ F H σ ρ) (hσ : σ[i]? = some (some (.ref a))) (hρ : ρ[i]? = some (.ow d)) (ho : Ob K F (upd H a o) a d') : Ext K F₀ H₀ σ₀ ρ₀ F (upd H a o) σ (ρ.set i (.ow d')) := by
  have hi : i < ρ.length := (List.getElem?_eq_some_iff.mp hρ).1
  have me : OwAt σ ρ i a := ⟨hσ, d, hρ⟩
  obtain ⟨hf, d0, o0⟩ := x.st.held (.inl me)
  have owB : ∀ j b, OwAt σ (ρ.set i (.ow d')) j b → OwAt σ ρ j b := fun j b ⟨e, d1, q⟩ => by
    by_cases hj : i = j
    · subst hj; exact ⟨e, d, hρ⟩
    · rw [List.getElem?_set_ne hj] at q; exact ⟨e, d1, q⟩
  have lkB : ∀ j b, LkAt σ (ρ.set i (.ow d')) j b → LkAt σ ρ j b := fun j b ⟨e, d1, q⟩ => by
    by_cases hj : i = j
    · subst hj; rw [List.getElem?_set_self hi] at q; cases q
    · rw [List.getElem?_set_ne hj] at q; exact ⟨e, d1, q⟩
  have hdB : ∀ j b, HdAt σ (ρ.set i (.ow d')) j b → HdAt σ ρ j b := fun j b q => q.elim (fun z => .inl (owB j b z)) fun z => .inr (lkB j b z)
  refine ⟨⟨fun b u e => ?_, by rw [List.length_set]; exact x.st.len, fun j s q => ?_, fun j k b h1 h2 => x.st.dj j k b (hdB j b h1) (hdB k b h2)⟩, x.fr, fun b u e n => ?_, x.nf, fun b e => ?_, fun j b q => x.ow j b (owB j b q), fun j b q => x.lk j b (lkB j b q)⟩
  · have hb : b ≠ a := fun z => by subst z; rw [hf] at e; cases e
    rw [upd_ne hb]; exact x.st.le b u e
  · by_cases hj : i = j
    · subst hj
      rw [List.getElem?_set_self hi] at q; cases q
      exact ⟨a, hσ, hf, ho⟩
    · rw [List.getElem?_set_ne hj] at q
      have z := x.st.sl j s q
      cases s with
      | em => trivial
      | fz d => exact z
      | ow d1 =>
        obtain ⟨b, e, nf, ob⟩ := z
        have hb : b ≠ a := fun z => by
          subst z
          exact hj (x.st.dj i j _ (.inl me) (.inl ⟨e, d1, q⟩))
        exact ⟨b, e, nf, ob.mono (Same.refl _) (upd_ne hb)⟩
      | lk d1 =>
        obtain ⟨b, e, nf, ob⟩ := z
        have hb : b ≠ a := fun z => by
          subst z
          exact hj (x.st.dj i j _ (.inl me) (.inr ⟨e, d1, q⟩))
        exact ⟨b, e, nf, ob.mono (Same.refl _) (upd_ne hb)⟩
  · have hb : b ≠ a := fun z => by
      subst z
      rcases x.ow i _ me with y | y
      · exact n i y
      · rw [e] at y; cases y
    rw [upd_ne hb]; exact x.kp b u e n
  · by_cases hb : b = a
    · subst hb; rw [upd_same]; exact fun z => nomatch z
    · rw [upd_ne hb]; exact x.gr b e
theorem sem_mut {T : String} {i : Nat} {c : D → Bool} {fr : Bool} {g : D → List D → Option (D × D)} {f : M (List Rs)} {r : V → List V → Hp → VK → Prop} (hc : ∀ F H a d, c d = true → Ob K F H a d → tyV K T (.ref a) H) (h : MutOk K r fr g) :
    ∀ σ H Q, tSem K (dMut i c fr g f) σ H Q → tBM K T r (tVar i) (tSemA K f) σ H Q := fun σ H Q ⟨F, ρ, res, ρ', s, e, k⟩ => by
  unfold dMut at e
  cases q0 : ρ[i]? with
  | none => rw [q0] at e; cases e
  | some sl =>
    rw [q0] at e
    cases sl with
    | em => cases e
    | fz _ => cases e
    | lk _ => cases e
    | ow d0 =>
      simp only at e
      split at e
      case isFalse => cases e
      case isTrue hc0 =>
        obtain ⟨rs, ρ1, e1, e⟩ := bd_ok e
        obtain ⟨ds, ρ2, e2, e⟩ := bd_ok e
        obtain ⟨a, ea, hf0, ho0⟩ := s.sl i _ q0
        cases q1 : ρ2[i]? with
        | none => rw [q1] at e; cases e
        | some sl2 =>
          rw [q1] at e
          cases sl2 with
          | em => cases e
          | fz _ => cases e
          | lk _ => cases e
          | ow d =>
            simp only at e
            cases eg : g d ds with
            | none => rw [eg] at e; cases e
            | some p =>
              obtain ⟨d', rs'⟩ := p
              rw [eg] at e
              cases e
              refine ⟨.ref a, ea, hc F H a d0 hc0 ho0, F, ρ, rs, ρ1, s, e1, fun F1 H1 xs x1 q2 => ?_⟩
              have main : ∀ F2, Ext K F H σ ρ F2 H1 σ ρ2 → (if fr = true then RpA K F2 xs ds else VwA K F2 H1 xs ds) → r (.ref a) xs H1 Q := fun F2 x2 hv => by
                obtain ⟨b, eb, hf, ho⟩ := x2.st.sl i _ q1
                rw [ea] at eb; cases eb
                refine h F2 H1 a d d' rs' ds xs Q x2.st.le hf ho hv eg fun o' v ho' rv => ?_
                exact k F2 _ v (x2.updSlot ea q1 ho') rv
              cases fr with
              | true =>
                obtain ⟨F2, x2, rp, _⟩ := frzA_ok x1 q2 e2
                exact main F2 x2 rp
              | false =>
                obtain ⟨z, w⟩ := lookA_ok x1.st q2 e2
                subst z
                exact main F1 x1 w
theorem ty_lst : ∀ F H a d, isLst d = true → Ob K F H a d → tyV K "list" (.ref a) H := fun F H a d h o => by
  cases d with
  | list ds => obtain ⟨vs, e, _⟩ := o; exact .inl ⟨rfl, vs, .inl (.inl e)⟩
  | _ => cases h
def gAppend : D → List D → Option (D × D)
  | .list ds, [d] => if ds.length < sizeLine then some (.list (ds ++ [d]), .none) else none
  | _, _ => none
def gExtend : D → List D → Option (D × D)
  | .list ds, [.list es] => if ds.length + es.length ≤ sizeLine then some (.list (ds ++ es), .none) else none
  | _, _ => none
theorem RpA.inv1 {xs : List V} {d : D} (h : RpA K F xs [d]) : ∃ x, xs = [x] ∧ Rp K F x d := by
  cases h with
  | cons h t => cases t; exact ⟨_, rfl, h⟩
theorem m_append : MutOk K rAppend true gAppend := fun F H a d d' res ds xs Q sm hf ho hv eg k => by
  unfold gAppend at eg
  split at eg
  · split at eg
    case isFalse => cases eg
    case isTrue hl =>
      cases eg
      obtain ⟨vs, eo, ra⟩ := ho
      obtain ⟨x, rfl, rx⟩ := RpA.inv1 (show RpA K F xs [_] from hv)
      exact ⟨a, vs, x, rfl, rfl, eo, by rw [ra.length]; exact hl, k _ _ ⟨_, upd_same, ra.app (.one rx)⟩ .non⟩
  · cases eg
section
variable {X : Cx} {o e : Expr} {es : List Expr} {name : Str} {apos cpos : Pos} {T id : String} {r : V → List V → Hp → VK → Prop} {f : M (List Rs)} {i : Nat} {c : D → Bool} {fr : Bool} {g : D → List D → Option (D × D)}
theorem emut (pa : PlainAttrs T) (slot : Slot T name id) (hty : typeOf (.builtin id) = pure (.type "method_descriptor")) (hm : MtR X id r) (hc : ∀ F H a d, c d = true → Ob X.K F H a d → tyV X.K T (.ref a) H) (h : MutOk X.K r fr g) (ho : PE X o (tVar i)) (ha : PA X (e :: es) (tSemA X.K f))
    (hbase : attributeBase o name X.env (eval o X.env) = eval o X.env := by rfl)
    (hfew : ((backTo cpos (starEach (e :: es) X.env)).all (fun x => !x.1) && (backToKw cpos (keywordEach [] X.env)).all (fun x => x.1.isSome)
      && decide ((e :: es).length + ([] : List Keyword).length + (if ([] : List Keyword).isEmpty then 0 else 1) < 30)) = true := by rfl)
    (hline : (apos.endLine == cpos.line) = true := by rfl) (hs : starEach (e :: es) X.env = (false, eval e X.env) :: starEach es X.env := by rfl) (hplain : (backTo cpos (starEach es X.env)).any (·.1) = false := by rfl) :
    PE X (.Call (.Attribute o name apos) (e :: es) [] cpos) (tSem X.K (dMut i c fr g f)) := peWeak (pe_bm pa slot hty hm ho ha hbase hfew hline hs hplain) (sem_mut hc h)
end
end
end DL
namespace DL
open PySem PySem.Spec PyProof.Rows L2
section
variable {K : PySem.W.Frag} {F H F' H' : Hp} {σ σ' : SS} {ρ ρ' : List Sl}
/-! ### is, in -/
def isB (b : Bool) : D → Bool
  | .bool a => a == b
  | _ => false
def gIs : D → D → Option Bool
  | x, .none => some (isNone x)
  | x, .bool b => some (isB b x)
  | _, _ => none
theorem isNone_V {v : V} {d : D} (h : Vw K F H v d) : decide (v = .non) = isNone d := by
  rcases h with h | ⟨a, rfl, o⟩
  · cases h <;> rfl
  · cases d with
    | list _ => rfl
    | dict _ => rfl
    | _ => exact o.elim
theorem vw_bool {v : V} {d : D} {b : Bool} {u : Value} (h : Vw K F H v d) (r : RelV v u) : isB b d = (u == Value.bool b) := by
  rcases h with h | ⟨a, rfl, o⟩
  · cases h with
    | non => cases r; rfl
    | bl a =>
      cases (show u = Value.bool a from r)
      by_cases e : a = b
      · subst e; simp [isB]
      · have h1 : (Value.bool a == Value.bool b) = false := beq_eq_false_iff_ne.mpr fun z => e (Value.bool.inj z)
        have h2 : (a == b) = false := beq_eq_false_iff_ne.mpr e
        rw [h1]; exact h2
    | int i => obtain ⟨t, rfl⟩ := r; rfl
    | str x => obtain ⟨t, rfl⟩ := r; rfl
    | lst _ _ => cases r; rfl
    | tup _ _ => cases r; rfl
    | dct _ _ => cases r; rfl
  · cases r
    cases d with
    | list _ => rfl
    | dict _ => rfl
    | _ => exact o.elim
section
variable {X : Cx}
theorem is_bool {u : Value} {b : Bool} {A : Around} {E : Value → Shared → Prop} {Q : Value → Shared → Prop} {s : Shared} {v : V} (r : RelV v u) (h : Q (.bool (u == Value.bool b)) s) : wpAny (model X.prog X.w) A (compareOp .Is u (.bool b)) Q E s := by
  by_cases e : u = Value.bool b
  · subst e
    exact wpAny_is_self rfl (by simpa using h)
  · have e2 : (u == Value.bool b) = false := beq_eq_false_iff_ne.mpr e
    rw [e2] at h
    refine wpAny_is_other ?_ e h
    cases v with
    | non => cases r; rfl
    | bl a => cases (show u = Value.bool a from r); rfl
    | int i => obtain ⟨t, rfl⟩ := r; rfl
    | str x => obtain ⟨t, rfl⟩ := r; rfl
    | byt x => obtain ⟨t, rfl⟩ := r; rfl
    | flt x => obtain ⟨t, rfl⟩ := r; rfl
    | ref a => cases r; rfl
    | ty n => cases r; rfl
theorem oIs : OpR X (compareOp .Is) (rG X.K (gB gIs)) := by
  intro pins s σ H x y v u Q I rx ry ⟨F, dx, dy, res, sm, hx, hy, e, q⟩
  obtain ⟨k, e0, rfl⟩ := map_b e
  clear e
  have e := e0
  clear e0
  unfold gIs at e
  split at e
  · cases e
    refine op_isN pins s σ H x y v u Q I rx ry ⟨hy.none, ?_⟩
    rw [isNone_V hx]; exact q.same sm (.bl _)
  · cases e
    rw [hy.bool] at ry
    cases ry
    rw [vw_bool hx rx] at q
    exact is_bool rx ⟨.bl _, H, I, rfl, q.same sm (.bl _)⟩
  · cases e
end
/-! ### tests -/
def tru : D → Option Bool
  | .none => some false
  | .bool b => some b
  | .int i => some (i != 0)
  | .str x => if x.length ≤ sizeLine then some ((x.length : Int) != 0) else none
  | .list ds => some (!ds.isEmpty)
  | .tuple ds => some (!ds.isEmpty)
  | .dict _ => none
def dTru (f : M Rs) : M Bool := bd f fun r => bd (look r) fun d => opt (tru d)
theorem empty_len {α β : Type} {as : List α} {bs : List β} (h : as.length = bs.length) : (!as.isEmpty) = !bs.isEmpty := by
  cases as <;> cases bs <;> first | rfl | simp at h
theorem tru_ok' {v : V} {d : D} {k : Bool} (s : Same F H) (h : Vw K F H v d) (e : tru d = some k) : TruV K v H k := by
  cases d with
  | none => cases e; rw [h.none]; rfl
  | bool b => cases e; rw [h.bool]; rfl
  | int i => cases e; rw [h.int]; rfl
  | str x =>
    unfold tru at e
    simp only at e
    split at e
    case isFalse => cases e
    case isTrue hl => cases e; rw [h.str]; exact ⟨hl, rfl⟩
  | list ds => cases e; obtain ⟨a, vs, rfl, h1, r⟩ := h.list s; exact .inl ⟨vs, .inl h1, (empty_len r.length).symm⟩
  | tuple ds => cases e; obtain ⟨a, vs, rfl, h1, r⟩ := h.tuple s; exact .inr (.inl ⟨vs, h1, (empty_len r.length).symm⟩)
  | dict ds => cases e
theorem sem_tru {f : M Rs} : ∀ σ H Q, tSemT K (dTru f) σ H Q → tSem K f σ H fun x H' => ∃ k, TruV K x H' k ∧ Q k H' := fun σ H Q ⟨F, ρ, r, ρ', s, e, k⟩ => by
  obtain ⟨ra, ρ1, e1, t1⟩ := bd_ok e
  obtain ⟨d, ρ2, e2, t2⟩ := bd_ok t1
  obtain ⟨e3, e4⟩ := opt_ok t2
  refine ⟨F, ρ, ra, ρ1, s, e1, fun F1 H1 x x1 r1 => ?_⟩
  obtain ⟨z, w⟩ := look_ok x1.st r1 e2
  subst z; subst e4
  exact ⟨r, tru_ok' x1.st.le w e3, k F1 H1 x1⟩
def dNot (c : M Bool) : M Bool := bd c fun b => pr (!b)
def dAnd (a b : M Bool) : M Bool := bd a fun k => if k = true then b else pr false
def dOr (a b : M Bool) : M Bool := bd a fun k => if k = true then pr true else b
/-- .. by values -/
def dAndV (a b : M Rs) : M Rs := bd a fun r => bd (look r) fun d => bd (opt (tru d)) fun k => if k = true then b else bd (frz r) fun d => pr (.fz d)
def dOrV (a b : M Rs) : M Rs := bd a fun r => bd (look r) fun d => bd (opt (tru d)) fun k => if k = true then bd (frz r) (fun d => pr (.fz d)) else b
def dNotV (a : M Rs) : M Rs := bd a fun r => bd (look r) fun d => bd (opt (tru d)) fun k => pr (.fz (.bool (!k)))
def dIfE (c : M Bool) (a b : M Rs) : M Rs := bd c fun k => if k = true then a else b
/-- a <= b <= c -/
def dChain (g g' : D → D → Option Bool) (fa fb fc : M Rs) : M Rs := bd fa fun ra => bd fb fun rb => bd (look ra) fun da => bd (look rb) fun db => bd (opt (g da db)) fun k =>
  if k = true then bd fc fun rc => bd (look rb) fun db => bd (look rc) fun dc => bd (opt (g' db dc)) fun k => pr (.fz (.bool k)) else pr (.fz (.bool false))
def dChainT (g g' : D → D → Option Bool) (fa fb fc : M Rs) : M Bool := bd fa fun ra => bd fb fun rb => bd (look ra) fun da => bd (look rb) fun db => bd (opt (g da db)) fun k =>
  if k = true then bd fc fun rc => bd (look rb) fun db => bd (look rc) fun dc => opt (g' db dc) else pr false
theorem sem_not {c : M Bool} : ∀ σ H Q, tSemT K (dNot c) σ H Q → tNot (tSemT K c) σ H Q := fun σ H Q ⟨F, ρ, r, ρ', s, e, k⟩ => by
  obtain ⟨b, ρ1, e1, t1⟩ := bd_ok e
  obtain ⟨z1, z2⟩ := pr_ok t1
  subst z1; subst z2
  exact ⟨F, ρ, b, _, s, e1, k⟩
theorem sem_or {a b : M Bool} : ∀ σ H Q, tSemT K (dOr a b) σ H Q → tOr (tSemT K a) (tSemT K b) σ H Q := fun σ H Q ⟨F, ρ, r, ρ', s, e, k⟩ => by
  obtain ⟨k1, ρ1, e1, t1⟩ := bd_ok e
  refine ⟨F, ρ, k1, ρ1, s, e1, fun F1 H1 x1 => ?_⟩
  cases k1 with
  | true => cases t1; exact iteT (k F1 H1 x1)
  | false => exact iteF ⟨F1, ρ1, r, ρ', x1.st, t1, fun F2 H2 x2 => k F2 H2 (x1.trans x2)⟩
theorem sem_ifE {c : M Bool} {a b : M Rs} : ∀ σ H Q, tSem K (dIfE c a b) σ H Q → tIf (tSemT K c) (tSem K a) (tSem K b) σ H Q := fun σ H Q ⟨F, ρ, r, ρ', s, e, k⟩ => by
  obtain ⟨k1, ρ1, e1, t1⟩ := bd_ok e
  refine ⟨F, ρ, k1, ρ1, s, e1, fun F1 H1 x1 => ?_⟩
  cases k1 with
  | true => exact iteT ⟨F1, ρ1, r, ρ', x1.st, t1, fun F2 H2 v x2 q => k F2 H2 v (x1.trans x2) (q.base fun a z => x1.back z)⟩
  | false => exact iteF ⟨F1, ρ1, r, ρ', x1.st, t1, fun F2 H2 v x2 q => k F2 H2 v (x1.trans x2) (q.base fun a z => x1.back z)⟩
theorem sem_andV {a b : M Rs} : ∀ σ H Q, tSem K (dAndV a b) σ H Q → tAndT K (tSem K a) (tSem K b) σ H Q := fun σ H Q ⟨F, ρ, r, ρ', s, e, k⟩ => by
  obtain ⟨r1, ρ1, e1, t1⟩ := bd_ok e
  obtain ⟨d, ρ2, e2, t2⟩ := bd_ok t1
  obtain ⟨k1, ρ3, e3, t3⟩ := bd_ok t2
  obtain ⟨g3, z3⟩ := opt_ok e3
  refine ⟨F, ρ, r1, ρ1, s, e1, fun F1 H1 x x1 q1 => ?_⟩
  obtain ⟨z, w⟩ := look_ok x1.st q1 e2
  subst z; subst z3
  refine ⟨k1, tru_ok' x1.st.le w g3, ?_⟩
  cases k1 with
  | true => exact iteT ⟨F1, _, r, ρ', x1.st, t3, fun F2 H2 v x2 q => k F2 H2 v (x1.trans x2) (q.base fun a z => x1.back z)⟩
  | false =>
    obtain ⟨d', ρ4, e4, t4⟩ := bd_ok t3
    cases t4
    obtain ⟨F2, x2, rp⟩ := frz_ok x1 q1 e4
    exact iteF (k F2 H1 x x2 rp)
theorem sem_notV {a : M Rs} : ∀ σ H Q, tSem K (dNotV a) σ H Q → tNotT K (tSem K a) σ H Q := fun σ H Q ⟨F, ρ, r, ρ', s, e, k⟩ => by
  obtain ⟨r1, ρ1, e1, t1⟩ := bd_ok e
  obtain ⟨d, ρ2, e2, t2⟩ := bd_ok t1
  obtain ⟨k1, ρ3, e3, t3⟩ := bd_ok t2
  obtain ⟨g3, z3⟩ := opt_ok e3
  refine ⟨F, ρ, r1, ρ1, s, e1, fun F1 H1 x x1 q1 => ?_⟩
  obtain ⟨z, w⟩ := look_ok x1.st q1 e2
  subst z; subst z3
  cases t3
  exact ⟨k1, tru_ok' x1.st.le w g3, k F1 H1 _ x1 (.bl _)⟩
section
variable {X : Cx} {a b c : Expr} {rest : List Expr} {pos : Pos} {fa fb fc : M Rs} {ta tb : M Bool}
/-- any expression as a test -/
theorem ttr (ha : PE X a (tSem X.K fa)) (he : ∀ whole, isTrue a X.env whole = (do let v ← whole; standAt a.pos; holding [v] (truthy v)) := by exact fun _ => rfl) : PT X a (tSemT X.K (dTru fa)) := ptWeak (pt_truth ha he) sem_tru
theorem tnot (h : PT X a (tSemT X.K ta)) : PT X (.UnaryOp .Not a pos) (tSemT X.K (dNot ta)) := ptWeak (pt_not h) sem_not
theorem pwWeak {X : Cx} {e : Expr} {t t' : TT} (h : PW X e t) (w : ∀ σ H Q, t' σ H Q → t σ H Q) : PW X e t' := ⟨fun wh pins s σ H Q I q => h.run wh pins s σ H Q I (w σ H Q q)⟩
theorem wor1 (h : PT X a (tSemT X.K ta)) : PW X (.BoolOp .Or [a] pos) (tSemT X.K ta) := pw_or1 h
theorem wor (h : PT X a (tSemT X.K ta)) (h2 : PW X (.BoolOp .Or (b :: rest) pos) (tSemT X.K tb)) : PW X (.BoolOp .Or (a :: b :: rest) pos) (tSemT X.K (dOr ta tb)) := pwWeak (pw_or h h2) sem_or
theorem twp (h : PW X a (tSemT X.K ta)) : PT X a (tSemT X.K ta) := h.pt
theorem evone {op} (h : PE X a (tSem X.K fa)) : PE X (.BoolOp op [a] pos) (tSem X.K fa) := pe_one h
theorem evand (h : PE X a (tSem X.K fa)) (h2 : PE X (.BoolOp .And (b :: rest) pos) (tSem X.K fb)) : PE X (.BoolOp .And (a :: b :: rest) pos) (tSem X.K (dAndV fa fb)) := peWeak (pe_andT h h2) sem_andV
theorem evnot (h : PE X a (tSem X.K fa)) : PE X (.UnaryOp .Not a pos) (tSem X.K (dNotV fa)) := peWeak (pe_notT h) sem_notV
theorem eife (hc : PT X c (tSemT X.K ta)) (ha : PE X a (tSem X.K fa)) (hb : PE X b (tSem X.K fb)) : PE X (.IfExp c a b pos) (tSem X.K (dIfE ta fa fb)) := peWeak (pe_ifExp hc ha hb) sem_ifE
end
end
end DL
namespace DL
open PySem PySem.Spec PyProof.Rows L2
section
variable {K : PySem.W.Frag} {F H F' H' : Hp} {σ σ' : SS} {ρ ρ' : List Sl}
/-! ### isinstance -/
def tyN : D → String
  | .none => "NoneType"
  | .bool _ => "bool"
  | .int _ => "int"
  | .str _ => "str"
  | .list _ => "list"
  | .tuple _ => "tuple"
  | .dict _ => "dict"
inductive Ty where
  | bool | int | str | list | tuple | dict
def Ty.nm : Ty → String
  | .bool => "bool"
  | .int => "int"
  | .str => "str"
  | .list => "list"
  | .tuple => "tuple"
  | .dict => "dict"
def isT : Ty → D → Bool
  | .bool, .bool _ => true
  | .int, .bool _ => true
  | .int, .int _ => true
  | .str, .str _ => true
  | .list, .list _ => true
  | .tuple, .tuple _ => true
  | .dict, .dict _ => true
  | _, _ => false
theorem kit_isT (T : Ty) (d : D) : PySem.W.kitOne K (.type (tyN d)) (.type T.nm) = some (isT T d) := by
  cases T <;> cases d <;> (refine kit_ty ?_; simp only [tyN, Ty.nm, isT]; decide +kernel)
theorem Vw.ty {v : V} {d : D} (s : Same F H) (h : Vw K F H v d) : TyX K H v (.type (tyN d)) := by
  rcases h with h | ⟨a, rfl, o⟩
  · cases h with
    | non => exact .base .non
    | bl b => exact .base (.bl b)
    | int i => exact .base (.int i)
    | str x => exact .base (.str x)
    | lst h r =>
      rcases rd_mono s h with h | ⟨o, h⟩
      · exact .base (.lst h)
      · exact .base (.frz h)
    | tup h r =>
      rcases sqT_mono s h with (h | ⟨o, h⟩) | ⟨o, its, n, h, hc, _⟩
      · exact .base (.tup h)
      · exact .fTuple h
      · exact .kTuple h hc
    | dct h r =>
      rcases rd_mono s h with h | ⟨o, h⟩
      · exact .base (.dK h)
      · exact .fDict h
  · cases d with
    | list ds => obtain ⟨vs, e, r⟩ := o; exact .base (.lst e)
    | dict ds => obtain ⟨vs, e, r⟩ := o; exact .base (.dK e)
    | _ => exact o.elim
def dIsi (T : Ty) (f : M Rs) : M Rs := bd f fun r => bd (look r) fun d => pr (.fz (.bool (isT T d)))
theorem sem_isi {T : Ty} {f : M Rs} : ∀ σ H Q, tSem K (dIsi T f) σ H Q → tCB (rIsi K) (tCons (tSem K f) (tCons (tC (.ty T.nm)) tNil)) σ H Q := fun σ H Q ⟨F, ρ, res, ρ', s, e, k⟩ => by
  obtain ⟨ra, ρ1, e1, e⟩ := bd_ok e
  obtain ⟨d, ρ2, e2, e⟩ := bd_ok e
  obtain ⟨e3, e4⟩ := pr_ok e
  subst e3; subst e4
  refine ⟨F, ρ, ra, ρ1, s, e1, fun F1 H1 v x1 q1 => ?_⟩
  obtain ⟨z, w⟩ := look_ok x1.st q1 e2
  subst z
  exact ⟨v, .ty T.nm, _, .type T.nm, isT T d, rfl, .ty _, w.ty x1.st.le, kit_isT T d, k F1 H1 _ x1 (.bl _)⟩
section
variable {X : Cx} {a : Expr} {f : M Rs} {pos p1 p2 : Pos}
theorem eisi (T : Ty) {x : Str} (hg : Gl X "isinstance") (hm : X.mg "isinstance" = none) (hg2 : Gl X x) (hm2 : X.mg x = none) (hx : bootBuiltins x = some (.type T.nm)) (ha : PE X a (tSem X.K f)) (hn : x ≠ "__name__" := by decide) (hd : (x == ("__debug__" : Str)) = false := by decide)
    (h0 : starEach [a, .Name x p2] X.env = (false, eval a X.env) :: starEach [.Name x p2] X.env := by rfl) (h1 : starEach [.Name x p2] X.env = (false, eval (.Name x p2) X.env) :: starEach [] X.env := by rfl)
    (hpl : (backTo pos (starEach [.Name x p2] X.env)).any (·.1) = false := by rfl) :
    PE X (.Call (.Name "isinstance" p1) [a, .Name x p2] [] pos) (tSem X.K (dIsi T f)) :=
  peWeak (pe_callB call_isi hg hm (by rfl) (pa_cons ha (pa_cons (pe_bltn hg2 hm2 hx (v := .ty T.nm) rfl hn hd) pa_nil h1) h0) (by decide) (by decide) h0 hpl) sem_isi
end
/-! ### methods that change nothing -/
def dMe (c : D → Bool) (g : D → List D → Option Rs) (fo : M Rs) (fa : M (List Rs)) : M Rs := bd fo fun ro => bd (look ro) fun d0 => if c d0 = true then bd fa fun rs => bd (look ro) fun d => bd (lookA rs) fun ds => opt (g d ds) else fun _ => .bad
/-! ### o[i] = v, o[i] op= v, name op= v -/
def gGet : D → D → Option D
  | .list ds, .int i => atI ds i
  | .dict kvs, k => (keyOf k).bind fun k => dget k kvs
  | _, _ => none
def gPut : D → D → D → Option D
  | .list ds, .int i, d => (ixN ds.length i).map fun j => .list (ds.set j d)
  | .dict kvs, k, d => if kvs.length < sizeLine then (keyOf k).map fun k => .dict (dput k d kvs) else none
  | _, _, _ => none
def tgGet (K : PySem.W.Frag) : V → V → Hp → VK → Prop := fun o i H Q => ∃ F a d k dr, Same F H ∧ o = .ref a ∧ Ob K F H a d ∧ i = kV k ∧ gGet d (kD k) = some dr ∧ ∀ v, Rp K F v dr → Q v H
def tgPut (K : PySem.W.Frag) : TSet := fun o i v H Q => ∃ F a d k dv d', Same F H ∧ F a = none ∧ o = .ref a ∧ Ob K F H a d ∧ i = kV k ∧ Rp K F v dv ∧ gPut d (kD k) dv = some d' ∧ ∀ o', Ob K F (upd H a o') a d' → Q (upd H a o')
section
variable {X : Cx}
theorem keyOf_kD (k : Key) : keyOf (kD k) = some k := by cases k <;> rfl
theorem get_ok (hu : X.A.units + 1 < cLine) : PGet X (tgGet X.K) := by
  intro pins s σ H o i ov iv Q I ro ri ⟨F, a, d, k, dr, sm, eo, ob, ei, e, q⟩
  subst eo; subst ei
  cases ro
  unfold gGet at e
  split at e
  · rename_i ds j ek
    cases k with
    | inr x => cases ek
    | inl j' =>
      cases ek
      obtain ⟨vs, hl, ra⟩ := ob
      obtain ⟨z, e2, rz⟩ := rpA_atI ra e
      obtain ⟨t, rfl⟩ := ri
      obtain ⟨its, r, pl, hz⟩ := I.list (.inl (.inl hl) : SqL X.K H a vs)
      obtain ⟨j2, h1, h2, h3, h4, h5⟩ := atI_get e2
      obtain ⟨w, ew, rw'⟩ := r.get h2
      have hl2 := r.length
      have hn := line63
      have fin : EP X pins σ Q w s := ⟨z, H, I, rw', q _ rz⟩
      by_cases h0 : 0 ≤ j
      · have hj : j.toNat = j2 := by
          rw [seqIndex_of h0 h5] at h1
          exact Option.some.inj h1
        exact wpAny_getItem_list pl.isList h0 (by omega) (by rw [hj]; simpa using ew) fin
      · have hj : (j + (its.toArray.size : Int)).toNat = j2 := by
          rw [seqIndex_neg (by omega) h4] at h1
          rw [List.size_toArray, ← hl2]
          exact Option.some.inj h1
        exact wpAny_getItem_list_neg pl.isList (by omega) (by rw [List.size_toArray] <;> omega) (by omega) (by rw [hj]; simpa using ew) fin
  · rename_i kvs
    rw [keyOf_kD] at e
    obtain ⟨vs, hl, ra⟩ := ob
    obtain ⟨z, e2, rz⟩ := (rpK_get ra).1 dr e
    have g : DGet H a (kV k) (some z) := e2 ▸ DGet.k hl
    exact d_getItem hu I g ri fun w' s3 I3 rw' => ⟨z, H, I3, rw', q _ rz⟩
  · cases e
theorem put_ok (hu : X.A.units + 1 < cLine) : PSet X (tgPut X.K) := by
  intro pins s σ H o i v ov iv u Q I ro ri rv ⟨F, a, d, k, dv, d', sm, fn, eo, ob, ei, rp, e, q⟩
  subst eo; subst ei
  unfold gPut at e
  split at e
  · rename_i ds j ek
    cases k with
    | inr x => cases ek
    | inl j' =>
      cases ek
      obtain ⟨vs, hl, ra⟩ := ob
      obtain ⟨j2, e2, rfl⟩ := opt_map e
      exact set_list pins s σ H _ _ v ov iv u Q I ro ri rv ⟨a, vs, j, j2, rfl, rfl, hl, by rw [ra.length]; exact e2, q _ ⟨_, upd_same, RpA.set (i := 0) rp j2 ra⟩⟩
  · split at e
    case isFalse => cases e
    case isTrue hlen =>
    rw [keyOf_kD] at e
    cases e
    obtain ⟨vs, hl, ra⟩ := ob
    exact set_dict hu pins s σ H _ _ v ov iv u Q I ro ri rv ⟨a, _, rfl, DPut.k hl (by rw [ra.length]; exact hlen), q _ ⟨_, upd_same, rpK_put ra rp⟩⟩
  · cases e
end
end
end DL
namespace DL
open PySem PySem.Spec PyProof.Rows L2
section
variable {K : PySem.W.Frag} {F H F' H' : Hp} {σ σ' : SS} {ρ ρ' : List Sl} {P : Nat → Prop}
/-! ### stores at items -/
def dKey (f : M Rs) : M Key := bd f fun r => bd (look r) fun d => opt (keyOf d)
/-- x[i] = e -/
def dPut (i : Nat) (fi fe : M Rs) : DS := fun ρ => match bd fe frz ρ with
  | .bad => .bad
  | .ok dv ρ1 => match ρ1[i]? with
    | some (.ow _) => match dKey fi ρ1 with
      | .bad => .bad
      | .ok k ρ2 => match ρ2[i]? with
        | some (.ow d) => match gPut d (kD k) dv with
          | some d' => .nx (ρ2.set i (.ow d'))
          | none => .bad
        | _ => .bad
    | _ => .bad
/-- x[i] op= e -/
def dAugS (g : G2) (i : Nat) (fi fe : M Rs) : DS := fun ρ => match ρ[i]? with
  | some (.ow _) => match dKey fi ρ with
    | .bad => .bad
    | .ok k ρ1 => match ρ1[i]? with
      | some (.ow d1) => match gGet d1 (kD k) with
        | none => .bad
        | some old => match bd fe look ρ1 with
          | .bad => .bad
          | .ok dv ρ2 => match g old dv with
            | some (.fz dn) => match ρ2[i]? with
              | some (.ow d2) => match gPut d2 (kD k) dn with
                | some d' => .nx (ρ2.set i (.ow d'))
                | none => .bad
              | _ => .bad
            | _ => .bad
      | _ => .bad
  | _ => .bad
/-- x op= e -/
def dAug (g : G2) (i : Nat) (fe : M Rs) : DS := fun ρ => match ρ[i]? with
  | some (.fz d) => match bd fe look ρ with
    | .bad => .bad
    | .ok dv ρ1 => match g d dv with
      | some (.fz dn) => if i < ρ1.length then .nx (ρ1.set i (.fz dn)) else .bad
      | _ => .bad
  | _ => .bad
theorem key_ok {f : M Rs} {k : Key} (h : dKey f ρ = .ok k ρ') (s : Sta K F H σ ρ) : ∃ r ρ1, f ρ = .ok r ρ1 ∧ ∀ F' H' v, Sta K F' H' σ ρ1 → RsR K H F' H' σ ρ1 v r → ρ' = ρ1 ∧ v = kV k := by
  obtain ⟨r, ρ1, e1, e⟩ := bd_ok h
  obtain ⟨d, ρ2, e2, e⟩ := bd_ok e
  obtain ⟨e3, e4⟩ := opt_ok e
  refine ⟨r, ρ1, e1, fun F' H' v s' q => ?_⟩
  obtain ⟨z, w⟩ := look_ok s' q e2
  subst z
  exact ⟨e4.symm ▸ rfl, w.key e3⟩
theorem sem_augS {g : G2} {i : Nat} {fi fe : M Rs} : ∀ D σ H, tSemS K P (dAugS g i fi fe) D σ H → tAugS (tVar i) (tSem K fi) (tSem K fe) (tgGet K) (rG K g) (tgPut K) D σ H := fun D σ H ⟨F, ρ, s, h⟩ => by
  unfold dAugS at h
  cases q0 : ρ[i]? with
  | none => simp only [q0] at h; exact h.elim
  | some sl =>
    cases sl with
    | em => simp only [q0] at h; exact h.elim
    | fz _ => simp only [q0] at h; exact h.elim
    | lk _ => simp only [q0] at h; exact h.elim
    | ow d0 =>
      simp only [q0] at h
      cases ek : dKey fi ρ with
      | bad => simp only [ek] at h; exact h.elim
      | ok k ρ1 =>
        simp only [ek] at h
        cases q1 : ρ1[i]? with
        | none => simp only [q1] at h; exact h.elim
        | some sl2 =>
          cases sl2 with
          | em => simp only [q1] at h; exact h.elim
          | fz _ => simp only [q1] at h; exact h.elim
          | lk _ => simp only [q1] at h; exact h.elim
          | ow d1 =>
            simp only [q1] at h
            cases eg : gGet d1 (kD k) with
            | none => simp only [eg] at h; exact h.elim
            | some old =>
              simp only [eg] at h
              cases ev : bd fe look ρ1 with
              | bad => simp only [ev] at h; exact h.elim
              | ok dv ρ2 =>
                simp only [ev] at h
                obtain ⟨r, ρ0, e1, e2⟩ := bd_ok ev
                cases eo : g old dv with
                | none => simp only [eo] at h; exact h.elim
                | some rs =>
                  cases rs with
                  | ow _ => simp only [eo] at h; exact h.elim
                  | nm _ => simp only [eo] at h; exact h.elim
                  | fz dn =>
                    simp only [eo] at h
                    cases q2 : ρ2[i]? with
                    | none => simp only [q2] at h; exact h.elim
                    | some sl3 =>
                      cases sl3 with
                      | em => simp only [q2] at h; exact h.elim
                      | fz _ => simp only [q2] at h; exact h.elim
                      | lk _ => simp only [q2] at h; exact h.elim
                      | ow d2 =>
                        simp only [q2] at h
                        cases ep : gPut d2 (kD k) dn with
                        | none => simp only [ep] at h; exact h.elim
                        | some d' =>
                          simp only [ep] at h
                          obtain ⟨a, ea, _, _⟩ := s.sl i _ q0
                          obtain ⟨rk, ρ3, e3, hk⟩ := key_ok ek s
                          refine ⟨.ref a, ea, F, ρ, rk, ρ3, s, e3, fun F1 H1 w x1 q3 => ?_⟩
                          obtain ⟨z, ew⟩ := hk F1 H1 w x1.st q3
                          subst z; subst ew
                          obtain ⟨b, eb, hf, ho⟩ := x1.st.sl i _ q1
                          rw [ea] at eb; cases eb
                          refine ⟨F1, a, d1, k, old, x1.st.le, rfl, ho, rfl, eg, fun x rx => ⟨F1, ρ1, r, ρ0, x1.st, e1, fun F2 H2 y x2 ry => ?_⟩⟩
                          obtain ⟨z, wy⟩ := look_ok x2.st ry e2
                          subst z
                          refine ⟨F2, old, dv, .fz dn, x2.st.le, .inl (rx.mono x2.fr), wy, eo, fun F3 H3 nv gr hr => ?_⟩
                          have x3 := x2.st.grow gr
                          have xx := (x1.trans x2).trans x3
                          obtain ⟨b, eb, hf3, ho3⟩ := xx.st.sl i _ q2
                          rw [ea] at eb; cases eb
                          exact ⟨F3, a, d2, k, dn, d', xx.st.le, hf3, rfl, ho3, rfl, hr, ep, fun o' ob => h F3 _ σ (xx.updSlot ea q2 ob) Prot.refl⟩
theorem sem_aug {g : G2} {i : Nat} {fe : M Rs} (hP : ¬ P i) : ∀ D σ H, tSemS K P (dAug g i fe) D σ H → tAug i (tSem K fe) (rG K g) D σ H := fun D σ H ⟨F, ρ, s, h⟩ => by
  unfold dAug at h
  cases q0 : ρ[i]? with
  | none => simp only [q0] at h; exact h.elim
  | some sl =>
    cases sl with
    | em => simp only [q0] at h; exact h.elim
    | ow _ => simp only [q0] at h; exact h.elim
    | lk _ => simp only [q0] at h; exact h.elim
    | fz d =>
      simp only [q0] at h
      cases ev : bd fe look ρ with
      | bad => simp only [ev] at h; exact h.elim
      | ok dv ρ1 =>
        simp only [ev] at h
        obtain ⟨r, ρ0, e1, e2⟩ := bd_ok ev
        cases eo : g d dv with
        | none => simp only [eo] at h; exact h.elim
        | some rs =>
          cases rs with
          | ow _ => simp only [eo] at h; exact h.elim
          | nm _ => simp only [eo] at h; exact h.elim
          | fz dn =>
            simp only [eo] at h
            split at h
            case isFalse => exact h.elim
            case isTrue hi =>
            obtain ⟨x, ex, rx⟩ := s.sl i _ q0
            refine ⟨x, ex, F, ρ, r, ρ0, s, e1, fun F1 H1 y x1 ry => ?_⟩
            obtain ⟨z, wy⟩ := look_ok x1.st ry e2
            subst z
            refine ⟨F1, d, dv, .fz dn, x1.st.le, .inl (rx.mono x1.fr), wy, eo, fun F2 H2 nv gr hr => ?_⟩
            exact h F2 H2 _ ((x1.trans (x1.st.grow gr)).setSlot hi (.inl ⟨dn, rfl, hr⟩)) (prot_set hP)
def gIAdd : G2
  | .int i, .int j => some (.fz (.int (i + j)))
  | .str i, .str j => if i.length + j.length ≤ sizeLine then some (.fz (.str (i ++ j))) else none
  | _, _ => none
def gISub : G2
  | .int i, .int j => some (.fz (.int (i - j)))
  | _, _ => none
section
variable {X : Cx} {o e ie : Expr} {fi fe : M Rs} {pos tpos : Pos} {i : Nat}
theorem pAdd : PIp X .Add (rG X.K gIAdd) := by
  intro pins s σ H x y v u Q I rx ry ⟨F, dx, dy, res, sm, hx, hy, e, q⟩
  unfold gIAdd at e
  split at e
  · cases e
    exact ip_add pins s σ H x y v u Q I rx ry ⟨_, _, hx.int, hy.int, q.same sm (.int _)⟩
  · split at e
    case isFalse => cases e
    case isTrue hl => cases e; exact iop_add_str pins s σ H x y v u Q I rx ry ⟨_, _, hx.str, hy.str, hl, q.same sm (.str _)⟩
  · cases e
theorem saugs {op : Operator} {g : G2} (hu : X.A.units + 1 < cLine) (hp : PIp X op (rG X.K g)) (ho : PE X o (tVar i)) (hi : PE X ie (tSem X.K fi)) (he : PE X e (tSem X.K fe))
    (ha : ∀ ov iv new, augStore ie ov iv new = (do holding [new, ov, iv] (setItem ov iv new); release [new, ov, iv] []; pure .next) := by intros; rfl) : PS X (.AugAssign (.Subscript o ie tpos) op e pos) (tSemS X.K P (dAugS g i fi fe)) :=
  psWeak (ps_augS ho hi (get_ok hu) he hp (put_ok hu) ha) sem_augS
theorem saug {op : Operator} {g : G2} {x : Str} {pos' : Pos} (hP : ¬ P i) (hp : PIp X op (rG X.K g)) (hN : X.N.Nodup) (hi : X.N[i]? = some x) (hx : Loc X.env.scope x) (he : PE X e (tSem X.K fe)) (hf : X.fn x = true ∨ X.env.scope.names.lookup x = some .local := by first | exact .inl rfl | exact .inr rfl | assumption) :
    PS X (.AugAssign (.Name x pos') op e pos) (tSemS X.K P (dAug g i fe)) := psWeak (ps_aug hN hi hx he hp hf) (sem_aug hP)
end
/-! ### dicts laid -/
theorem Ext.updNew {F₀ H₀ : Hp} {σ₀ : SS} {ρ₀ : List Sl} {a : Addr} {o : HO} (x : Ext K F₀ H₀ σ₀ ρ₀ F H σ ρ) (h0 : H₀ a = none) (hf : F a = none) (hn : ∀ i, ¬ HdAt σ ρ i a) : Ext K F₀ H₀ σ₀ ρ₀ F (upd H a o) σ ρ := by
  refine ⟨⟨fun b u e => ?_, x.st.len, fun j s q => ?_, x.st.dj⟩, x.fr, fun b u e n => ?_, x.nf, fun b e => ?_, x.ow, x.lk⟩
  · have hb : b ≠ a := fun z => by subst z; rw [hf] at e; cases e
    rw [upd_ne hb]; exact x.st.le b u e
  · have z := x.st.sl j s q
    cases s with
    | em => trivial
    | fz d => exact z
    | ow d =>
      obtain ⟨b, e1, e2, e3⟩ := z
      have hb : b ≠ a := fun z => by subst z; exact hn j (.inl ⟨e1, d, q⟩)
      exact ⟨b, e1, e2, e3.mono (Same.refl _) (upd_ne hb)⟩
    | lk d =>
      obtain ⟨b, e1, e2, e3⟩ := z
      have hb : b ≠ a := fun z => by subst z; exact hn j (.inr ⟨e1, d, q⟩)
      exact ⟨b, e1, e2, e3.mono (Same.refl _) (upd_ne hb)⟩
  · have hb : b ≠ a := fun z => by subst z; rw [h0] at e; cases e
    rw [upd_ne hb]; exact x.kp b u e n
  · by_cases hb : b = a
    · subst hb; rw [upd_same]; exact fun z => nomatch z
    · rw [upd_ne hb]; exact x.gr b e
def dPairs : List (M Rs × M Rs) → M (List (Key × Rs))
  | [] => pr []
  | p :: ps => bd (dKey p.1) fun k => bd p.2 fun r => bd (dPairs ps) fun rs => pr ((k, r) :: rs)
def dDisp (ps : List (M Rs × M Rs)) : M Rs := bd (dPairs ps) fun krs => bd (frzA (krs.map (·.2))) fun ds => if krs.length ≤ 15 then pr (.ow (.dict ((List.zip (krs.map (·.1)) ds).foldl (fun acc kv => dput kv.1 kv.2 acc) []))) else fun _ => .bad
theorem RsA.cons {H₀ : Hp} {v : V} {r : Rs} {vs : List V} {rs : List Rs} {F1 H1 : Hp} {ρ1 : List Sl} (q1 : RsR K H₀ F1 H1 σ ρ1 v r) (x2 : Ext K F1 H1 σ ρ1 F H σ ρ) (q2 : RsA K H1 F H σ ρ vs rs) (b : ∀ a, H1 a = none → H₀ a = none) : RsA K H₀ F H σ ρ (v :: vs) (r :: rs) := by
  refine ⟨by rw [List.length_cons, List.length_cons, q2.len], fun i w r' h1 h2 => ?_, fun i j a d e h1 h2 h3 h4 => ?_⟩
  · cases i with
    | zero => simp at h1 h2; subst h1; subst h2; exact q1.ext x2
    | succ i => exact (q2.at_ i w r' (by simpa using h1) (by simpa using h2)).base b
  · have cross : ∀ (j : Nat) (a : Addr) (d e : D), v = .ref a → r = .ow d → vs[j]? = some (.ref a) → rs[j]? = some (.ow e) → False := fun j' a' d' e' g1 g2 g3 g4 => by
      rw [g2] at q1
      obtain ⟨b, eb, _, _, ob, _⟩ := q1
      obtain ⟨c, ec, hc, _⟩ := q2.at_ j' _ _ g3 g4
      rw [g1] at eb
      cases eb
      cases ec
      exact ob.ne hc
    cases i with
    | zero =>
      cases j with
      | zero => rfl
      | succ j => simp at h1 h2; exact (cross j a d e h1 h2 (by simpa using h3) (by simpa using h4)).elim
    | succ i =>
      cases j with
      | zero => simp at h3 h4; exact (cross i a e d h3 h4 (by simpa using h1) (by simpa using h2)).elim
      | succ j => rw [q2.dj i j a d e (by simpa using h1) (by simpa using h2) (by simpa using h3) (by simpa using h4)]
theorem sem_pairs : ∀ {ps : List (M Rs × M Rs)} {F H : Hp} {ρ ρ' : List Sl} {krs : List (Key × Rs)} {Q : List (V × V) → Hp → Prop}, Sta K F H σ ρ → dPairs ps ρ = .ok krs ρ' →
    (∀ F' H' vs, Ext K F H σ ρ F' H' σ ρ' → RsA K H F' H' σ ρ' vs (krs.map (·.2)) → Q (List.zip (krs.map fun p => kV p.1) vs) H') → tPairs (ps.map fun p => (tSem K p.1, tSem K p.2)) σ H Q
  | [], F, H, ρ, ρ', krs, Q, s, e, k => by
    cases e
    exact k F H [] (Ext.refl s) ⟨rfl, fun i v r h => by simp at h, fun i j a d e h => by simp at h⟩
  | p :: ps, F, H, ρ, ρ', krs, Q, s, e, k => by
    obtain ⟨kk, ρ1, e1, e⟩ := bd_ok e
    obtain ⟨r, ρ2, e2, e⟩ := bd_ok e
    obtain ⟨rs, ρ3, e3, e⟩ := bd_ok e
    obtain ⟨e4, e5⟩ := pr_ok e
    subst e4; subst e5
    obtain ⟨rk, ρ4, e6, hk⟩ := key_ok e1 s
    refine ⟨F, ρ, rk, ρ4, s, e6, fun F1 H1 w x1 q1 => ?_⟩
    obtain ⟨z, ew⟩ := hk F1 H1 w x1.st q1
    subst z; subst ew
    refine ⟨F1, ρ1, r, ρ2, x1.st, e2, fun F2 H2 y x2 q2 => sem_pairs x2.st e3 fun F3 H3 vs x3 q3 => ?_⟩
    exact k F3 H3 (y :: vs) ((x1.trans x2).trans x3) (RsA.cons (q2.base fun a z => x1.back z) x3 q3 fun a z => (x1.trans x2).back z)
theorem fold_put {kvs : List (Key × V)} {ds : List (Key × D)} (h : Paired (fun p q => p.1 = q.1 ∧ Rp K F p.2 q.2) kvs ds) : ∀ {acc : List (Key × V)} {dac : List (D × D)}, RpK K F acc dac → RpK K F (kvs.foldl (fun acc kv => putK acc kv.1 kv.2) acc) (ds.foldl (fun acc kv => dput kv.1 kv.2 acc) dac) := by
  induction h with
  | nil => intro _ _ h; exact h
  | cons a b ih =>
    intro acc dac q
    obtain ⟨a1, a2⟩ := a
    refine ih ?_
    show RpK K F (putK acc _ _) (dput _ _ dac)
    rw [← a1]
    exact rpK_put q a2
theorem zip_pair : ∀ {ks : List Key} {vs : List V} {ds : List D}, RpA K F vs ds → Paired (fun (p : Key × V) (q : Key × D) => p.1 = q.1 ∧ Rp K F p.2 q.2) (ks.zip vs) (ks.zip ds)
  | [], _, _, _ => .nil
  | _ :: _, _, _, .nil => .nil
  | k :: ks, _, _, .cons r t => .cons ⟨rfl, r⟩ (zip_pair t)
theorem zip_kV : ∀ (krs : List (Key × Rs)) (vs : List V), List.zip (krs.map fun p => kV p.1) vs = (List.zip (krs.map (·.1)) vs).map fun kv => (kV kv.1, kv.2)
  | [], _ => rfl
  | _ :: _, [] => rfl
  | p :: r, v :: vs => by
    rw [List.map_cons, List.map_cons, List.zip_cons_cons, List.zip_cons_cons, List.map_cons, zip_kV r vs]
theorem sem_disp {ps : List (M Rs × M Rs)} : ∀ σ H Q, tSem K (dDisp ps) σ H Q → tDisp (ps.map fun p => (tSem K p.1, tSem K p.2)) σ H Q := fun σ H Q ⟨F, ρ, res, ρ', s, e, k⟩ p hp => by
  obtain ⟨krs, ρ1, e1, e⟩ := bd_ok e
  obtain ⟨ds, ρ2, e2, e⟩ := bd_ok e
  split at e
  case isFalse => cases e
  case isTrue h15 =>
  obtain ⟨e3, e4⟩ := pr_ok e
  subst e3; subst e4
  have fp : F p = none := s.le.free hp
  have x0 : Ext K F H σ ρ F (upd H p (.dK [])) σ ρ := s.grow ⟨Same.refl _, s.le.trans (same_upd hp), same_upd hp, fun _ _ e => e⟩
  refine sem_pairs x0.st e1 fun F1 H1 vs x1 q1 => ?_
  have nh : ∀ i, ¬ HdAt σ ρ i p := fun i z => by
    obtain ⟨_, d, o⟩ := s.held z
    exact o.ne hp
  have hp1 : H1 p = some (.dK []) := x1.kp p _ upd_same fun i z => nh i (.inl z)
  obtain ⟨F2, x2, rpa, sm2⟩ := frzA_ok x1 q1 e2
  have xx := x0.trans x2
  have fp2 : F2 p = none := x2.nf p (by rw [upd_same]; exact fun z => nomatch z) nh fp
  have nh2 : ∀ i, ¬ HdAt σ ρ' i p := fun i z => by
    rcases x2.hd z with y | y
    · exact nh i y
    · rw [upd_same] at y; cases y
  refine ⟨hp1, List.zip (krs.map (·.1)) vs, zip_kV krs vs, ?_, ?_⟩
  · rw [List.length_zip, List.length_map]; omega
  · refine k F2 _ _ (xx.updNew hp fp2 nh2) ⟨p, rfl, hp, fp2, ⟨_, upd_same, ?_⟩, nh2⟩
    exact fold_put (zip_pair rpa) .nil
def dNew : M Rs := pr (.ow (.dict []))
section
variable {X : Cx} {pos : Pos}
theorem edi {keys : List (Option Expr)} {values : List Expr} {ps : List (M Rs × M Rs)} (h : PPs X pos keys values (ps.map fun p => (tSem X.K p.1, tSem X.K p.2))) (hall : keys.all (·.isSome) = true := by rfl) (hl : keys.length = values.length := by rfl) (h0 : keys ≠ [] := by exact fun z => nomatch z)
    (h15 : keys.length ≤ 15 := by decide) : PE X (.Dict keys values pos) (tSem X.K (dDisp ps)) := peWeak (pe_disp h hall hl h0 h15) sem_disp
end
end
end DL
namespace DL
open PySem PySem.Spec PyProof.Rows L2
theorem u1 {k : Nat} {A : Around} (r : Room k A) : A.units + 1 < cLine := by have := r.un; omega
theorem u64 {k : Nat} {A : Around} (r : Room k A) : A.units + 64 < cLine := by have := r.un; omega
theorem fnok_bad {P : Program} {w : World} {K : PySem.W.Frag} {mg : Str → Option Value} {base : Heap} {CX : CXT} {k : Nat} {f : Addr} {fd : FuncData} {ps : List Str} {n : Nat} : FnOk P w K mg base CX k f fd ps (spD K n (fun _ => .bad)) := by
  refine ⟨fun vs H Q E h => ?_, fun A outer s H args us vs Q E hr he hb hv hs => ?_⟩
  · obtain ⟨_, F, ρ, r, ρ', s, e, _⟩ := h; cases e
  · obtain ⟨_, F, ρ, r, ρ', s, e, _⟩ := hs; cases e
end DL
/-! DL15: reckoning with the combinators on plain data, no program in sight -/
namespace DL
open PySem L2
/-- what simp is not to go into -/
inductive Tag {α : Type} (a : α) : Type where
  | mk
def vR {α : Type} (r : R α) (Q : α → List Sl → Prop) : Prop := match r with
  | .ok a ρ => Q a ρ
  | .bad => False
def vM {α : Type} (m : M α) (ρ : List Sl) (Q : α → List Sl → Prop) : Prop := vR (m ρ) Q
def vO {α : Type} (o : Option α) (Q : α → Prop) : Prop := match o with
  | some a => Q a
  | none => False
def vS (s : DS) (ρ : List Sl) (N : List Sl → Prop) (T : Rs → List Sl → Prop) (B C : List Sl → Prop) : Prop := match s ρ with
  | .nx ρ' => N ρ'
  | .rt r ρ' => T r ρ'
  | .bk ρ' => B ρ'
  | .ct ρ' => C ρ'
  | .bad => False
def nope {α : Type} : α → Prop := fun _ => False
theorem vM_iff {α : Type} {m : M α} {ρ : List Sl} {Q : α → List Sl → Prop} : vM m ρ Q ↔ ∃ a ρ', m ρ = .ok a ρ' ∧ Q a ρ' := by
  unfold vM vR
  constructor
  · intro h
    cases e : m ρ with
    | ok a ρ' => rw [e] at h; exact ⟨a, ρ', rfl, h⟩
    | bad => rw [e] at h; exact h.elim
  · rintro ⟨a, ρ', e, h⟩; rw [e]; exact h
theorem vM_eq {α : Type} {m : M α} {ρ ρ' : List Sl} {a : α} (h : vM m ρ fun b ρ1 => b = a ∧ ρ1 = ρ') : m ρ = .ok a ρ' := by
  obtain ⟨b, ρ1, e, rfl, rfl⟩ := vM_iff.mp h; exact e
theorem vM_mono {α : Type} {m : M α} {ρ : List Sl} {Q Q' : α → List Sl → Prop} (h : vM m ρ Q) (i : ∀ a ρ', Q a ρ' → Q' a ρ') : vM m ρ Q' := by
  obtain ⟨a, ρ', e, h⟩ := vM_iff.mp h; exact vM_iff.mpr ⟨a, ρ', e, i _ _ h⟩
theorem vS_mono {s : DS} {ρ : List Sl} {N N' : List Sl → Prop} {T T' : Rs → List Sl → Prop} {B B' C C' : List Sl → Prop} (h : vS s ρ N T B C) (n : ∀ ρ, N ρ → N' ρ) (t : ∀ r ρ, T r ρ → T' r ρ) (b : ∀ ρ, B ρ → B' ρ) (c : ∀ ρ, C ρ → C' ρ) : vS s ρ N' T' B' C' := by
  unfold vS at h ⊢
  cases e : s ρ <;> rw [e] at h
  · exact n _ h
  · exact t _ _ h
  · exact b _ h
  · exact c _ h
  · exact h
section
variable {α β : Type} {ρ : List Sl} {N : List Sl → Prop} {T : Rs → List Sl → Prop} {B C : List Sl → Prop}
theorem vM_bd {m : M α} {k : α → M β} {Q : β → List Sl → Prop} : vM (bd m k) ρ Q = vM m ρ fun a ρ1 => vM (k a) ρ1 Q := by
  unfold vM bd
  cases m ρ <;> rfl
theorem vM_pr {a : α} {Q : α → List Sl → Prop} : vM (pr a) ρ Q = Q a ρ := rfl
theorem vM_opt {o : Option α} {Q : α → List Sl → Prop} : vM (opt o) ρ Q = vO o fun a => Q a ρ := by cases o <;> rfl
theorem vO_some {a : α} {Q : α → Prop} : vO (some a) Q = Q a := rfl
theorem vM_C {d : D} {Q : Rs → List Sl → Prop} : vM (dC d) ρ Q = Q (.fz d) ρ := rfl
def varK (o : Option Sl) (i : Nat) (ρ : List Sl) (Q : Rs → List Sl → Prop) (_ : Tag Q := .mk) : Prop := match o with
  | some (.fz d) => Q (.fz d) ρ
  | some (.ow _) => Q (.nm i) ρ
  | some (.lk _) => Q (.nm i) ρ
  | _ => False
theorem vM_var {i : Nat} {Q : Rs → List Sl → Prop} : vM (dVar i) ρ Q = varK ρ[i]? i ρ Q := by
  unfold vM dVar varK
  cases ρ[i]? with
  | none => rfl
  | some s => cases s <;> rfl
theorem varK_fz {d : D} {i : Nat} {Q : Rs → List Sl → Prop} : varK (some (.fz d)) i ρ Q = Q (.fz d) ρ := rfl
theorem varK_ow {d : D} {i : Nat} {Q : Rs → List Sl → Prop} : varK (some (.ow d)) i ρ Q = Q (.nm i) ρ := rfl
theorem varK_lk {d : D} {i : Nat} {Q : Rs → List Sl → Prop} : varK (some (.lk d)) i ρ Q = Q (.nm i) ρ := rfl
def lookK (o : Option Sl) (ρ : List Sl) (Q : D → List Sl → Prop) (_ : Tag Q := .mk) : Prop := match o with
  | some (.fz d) => Q d ρ
  | some (.ow d) => Q d ρ
  | some (.lk d) => Q d ρ
  | _ => False
theorem lookK_fz {d : D} {Q : D → List Sl → Prop} : lookK (some (.fz d)) ρ Q = Q d ρ := rfl
theorem lookK_ow {d : D} {Q : D → List Sl → Prop} : lookK (some (.ow d)) ρ Q = Q d ρ := rfl
theorem lookK_lk {d : D} {Q : D → List Sl → Prop} : lookK (some (.lk d)) ρ Q = Q d ρ := rfl
theorem vM_look_fz {d : D} {Q : D → List Sl → Prop} : vM (look (.fz d)) ρ Q = Q d ρ := rfl
theorem vM_look_ow {d : D} {Q : D → List Sl → Prop} : vM (look (.ow d)) ρ Q = Q d ρ := rfl
theorem vM_look_nm {i : Nat} {Q : D → List Sl → Prop} : vM (look (.nm i)) ρ Q = lookK ρ[i]? ρ Q := by
  unfold vM look lookK
  simp only
  cases ρ[i]? with
  | none => rfl
  | some s => cases s <;> rfl
def frzK (o : Option Sl) (i : Nat) (ρ : List Sl) (Q : D → List Sl → Prop) (_ : Tag Q := .mk) : Prop := match o with
  | some (.fz d) => Q d ρ
  | some (.ow d) => Q d (ρ.set i (.fz d))
  | some (.lk d) => Q d (ρ.set i (.fz d))
  | _ => False
theorem frzK_fz {d : D} {i : Nat} {Q : D → List Sl → Prop} : frzK (some (.fz d)) i ρ Q = Q d ρ := rfl
theorem frzK_ow {d : D} {i : Nat} {Q : D → List Sl → Prop} : frzK (some (.ow d)) i ρ Q = Q d (ρ.set i (.fz d)) := rfl
theorem frzK_lk {d : D} {i : Nat} {Q : D → List Sl → Prop} : frzK (some (.lk d)) i ρ Q = Q d (ρ.set i (.fz d)) := rfl
theorem vM_frz_fz {d : D} {Q : D → List Sl → Prop} : vM (frz (.fz d)) ρ Q = Q d ρ := rfl
theorem vM_frz_ow {d : D} {Q : D → List Sl → Prop} : vM (frz (.ow d)) ρ Q = Q d ρ := rfl
theorem vM_frz_nm {i : Nat} {Q : D → List Sl → Prop} : vM (frz (.nm i)) ρ Q = frzK ρ[i]? i ρ Q := by
  unfold vM frz frzK
  simp only
  cases ρ[i]? with
  | none => rfl
  | some s => cases s <;> rfl
theorem vM_op2 {g : G2} {a b : M Rs} {Q : Rs → List Sl → Prop} : vM (dOp2 g a b) ρ Q = vM a ρ fun ra ρ1 => vM b ρ1 fun rb ρ2 => vM (look ra) ρ2 fun da ρ3 => vM (look rb) ρ3 fun db ρ4 => vO (g da db) fun r => Q r ρ4 := by
  unfold dOp2; simp only [vM_bd, vM_opt]
theorem vM_op2T {g : D → D → Option Bool} {a b : M Rs} {Q : Bool → List Sl → Prop} : vM (dOp2T g a b) ρ Q = vM a ρ fun ra ρ1 => vM b ρ1 fun rb ρ2 => vM (look ra) ρ2 fun da ρ3 => vM (look rb) ρ3 fun db ρ4 => vO (g da db) fun r => Q r ρ4 := by
  unfold dOp2T; simp only [vM_bd, vM_opt]
theorem vO_gB {g : D → D → Option Bool} {x y : D} {Q : Rs → Prop} : vO (gB g x y) Q = vO (g x y) fun k => Q (.fz (.bool k)) := by
  show vO ((g x y).map _) Q = _
  cases g x y <;> rfl
theorem vM_op1 {g : D → Option Rs} {a : M Rs} {Q : Rs → List Sl → Prop} : vM (dOp1 g a) ρ Q = vM a ρ fun ra ρ1 => vM (look ra) ρ1 fun da ρ2 => vO (g da) fun r => Q r ρ2 := by
  unfold dOp1; simp only [vM_bd, vM_opt]
theorem vM_nil {Q : List Rs → List Sl → Prop} : vM dNil ρ Q = Q [] ρ := rfl
theorem vM_cons {f : M Rs} {g : M (List Rs)} {Q : List Rs → List Sl → Prop} : vM (dCons f g) ρ Q = vM f ρ fun r ρ1 => vM g ρ1 fun rs ρ2 => Q (r :: rs) ρ2 := by
  unfold dCons; simp only [vM_bd, vM_pr]
theorem vM_frzA0 {Q : List D → List Sl → Prop} : vM (frzA []) ρ Q = Q [] ρ := rfl
theorem vM_frzA {r : Rs} {rs : List Rs} {Q : List D → List Sl → Prop} : vM (frzA (r :: rs)) ρ Q = vM (frz r) ρ fun d ρ1 => vM (frzA rs) ρ1 fun ds ρ2 => Q (d :: ds) ρ2 := by
  conv => lhs; unfold frzA
  simp only [vM_bd, vM_pr]
theorem vM_lookA0 {Q : List D → List Sl → Prop} : vM (lookA []) ρ Q = Q [] ρ := rfl
theorem vM_lookA {r : Rs} {rs : List Rs} {Q : List D → List Sl → Prop} : vM (lookA (r :: rs)) ρ Q = vM (look r) ρ fun d ρ1 => vM (lookA rs) ρ1 fun ds ρ2 => Q (d :: ds) ρ2 := by
  conv => lhs; unfold lookA
  simp only [vM_bd, vM_pr]
theorem vM_ite {c : Prop} [Decidable c] {a b : M α} {Q : α → List Sl → Prop} : vM (if c then a else b) ρ Q = if c then vM a ρ Q else vM b ρ Q := by split <;> rfl
theorem vM_tup {f : M (List Rs)} {Q : Rs → List Sl → Prop} : vM (dTup f) ρ Q = vM f ρ fun rs ρ1 => vM (frzA rs) ρ1 fun ds ρ2 => ds.length ≤ 1000 ∧ Q (.fz (.tuple ds)) ρ2 := by
  unfold dTup; simp only [vM_bd]
  congr 1; funext rs ρ1; congr 1; funext ds ρ2
  by_cases h : ds.length ≤ 1000
  · rw [if_pos h]; simp only [vM_pr, h, true_and]
  · rw [if_neg h]; simp only [h, false_and]; rfl
theorem vM_lst {f : M (List Rs)} {Q : Rs → List Sl → Prop} : vM (dLst f) ρ Q = vM f ρ fun rs ρ1 => vM (frzA rs) ρ1 fun ds ρ2 => ds.length ≤ 1000 ∧ Q (.ow (.list ds)) ρ2 := by
  unfold dLst; simp only [vM_bd]
  congr 1; funext rs ρ1; congr 1; funext ds ρ2
  by_cases h : ds.length ≤ 1000
  · rw [if_pos h]; simp only [vM_pr, h, true_and]
  · rw [if_neg h]; simp only [h, false_and]; rfl
theorem vM_B {g : List D → Option Rs} {f : M (List Rs)} {Q : Rs → List Sl → Prop} : vM (dB g f) ρ Q = vM f ρ fun rs ρ1 => vM (lookA rs) ρ1 fun ds ρ2 => vO (g ds) fun r => Q r ρ2 := by
  unfold dB; simp only [vM_bd, vM_opt]
theorem vM_isi {T : Ty} {f : M Rs} {Q : Rs → List Sl → Prop} : vM (dIsi T f) ρ Q = vM f ρ fun r ρ1 => vM (look r) ρ1 fun d ρ2 => Q (.fz (.bool (isT T d))) ρ2 := by
  unfold dIsi; simp only [vM_bd, vM_pr]
theorem vM_me {c : D → Bool} {g : D → List D → Option Rs} {fo : M Rs} {fa : M (List Rs)} {Q : Rs → List Sl → Prop} : vM (dMe c g fo fa) ρ Q = vM fo ρ fun ro ρ1 => vM (look ro) ρ1 fun d0 ρ2 => c d0 = true ∧ vM fa ρ2 fun rs ρ3 => vM (look ro) ρ3 fun d ρ4 => vM (lookA rs) ρ4 fun ds ρ5 => vO (g d ds) fun r => Q r ρ5 := by
  unfold dMe; simp only [vM_bd]
  congr 1; funext rs ρ1; congr 1; funext ds ρ2
  by_cases h : c ds = true
  · rw [if_pos h]; simp only [vM_bd, vM_opt, h, true_and]
  · rw [if_neg h]; exact propext ⟨fun z => z.elim, fun z => (h z.1).elim⟩
theorem vM_sl {fa : M Rs} {fl fh : M (Option Int)} {Q : Rs → List Sl → Prop} : vM (dSl fa fl fh) ρ Q = vM fa ρ fun ra ρ1 => vM fl ρ1 fun l ρ2 => vM fh ρ2 fun h ρ3 => vM (look ra) ρ3 fun d ρ4 => vO (gSl d l h) fun r => Q r ρ4 := by
  unfold dSl; simp only [vM_bd, vM_opt]
theorem vM_noP {Q : Option Int → List Sl → Prop} : vM dNoP ρ Q = Q none ρ := rfl
def intD : D → Option (Option Int)
  | .int i => some (some i)
  | _ => none
theorem vM_part {f : M Rs} {Q : Option Int → List Sl → Prop} : vM (dPart f) ρ Q = vM f ρ fun r ρ1 => vM (look r) ρ1 fun d ρ2 => vO (intD d) fun i => Q i ρ2 := by
  unfold dPart; simp only [vM_bd, vM_opt]
  rfl
theorem intD_int {i : Int} : intD (.int i) = some (some i) := rfl
theorem vM_key {f : M Rs} {Q : Key → List Sl → Prop} : vM (dKey f) ρ Q = vM f ρ fun r ρ1 => vM (look r) ρ1 fun d ρ2 => vO (keyOf d) fun k => Q k ρ2 := by
  unfold dKey; simp only [vM_bd, vM_opt]
def callK (sem : M Rs) (rs : List Rs) (ρ : List Sl) (Q : Rs → List Sl → Prop) (_ : Tag Q := .mk) : Prop := vR (sem (rs.map (slotOf ρ))) fun r ρp => match r with
  | .fz d => Q (.fz d) (wb rs ρp ρ)
  | .ow d => Q (.ow d) (wb rs ρp ρ)
  | .nm _ => False
theorem vM_call {ls : List Bool} {sem : M Rs} {f : M (List Rs)} {Q : Rs → List Sl → Prop} : vM (dCall ls sem f) ρ Q = vM f ρ fun rs ρ1 => vM (argSA ls rs) ρ1 fun rs' ρ2 => (nmOk rs' && rs'.all (heldR ρ2)) = true ∧ callK sem rs' ρ2 Q := by
  unfold dCall; simp only [vM_bd]
  congr 1; funext rs ρ1; congr 1; funext rs' ρ2
  unfold callK vM
  dsimp only
  by_cases h : (nmOk rs' && rs'.all (heldR ρ2)) = true
  · rw [if_pos h]; simp only [h, true_and]
    cases sem (rs'.map (slotOf ρ2)) with
    | bad => rfl
    | ok r ρp => cases r <;> rfl
  · rw [if_neg h]; exact propext ⟨fun z => z.elim, fun z => (h z.1).elim⟩
theorem vM_argSA0 {Q : List Rs → List Sl → Prop} : vM (argSA [] []) ρ Q = Q [] ρ := rfl
theorem vM_argSA {l : Bool} {ls : List Bool} {r : Rs} {rs : List Rs} {Q : List Rs → List Sl → Prop} : vM (argSA (l :: ls) (r :: rs)) ρ Q = vM (argS l r) ρ fun r' ρ1 => vM (argSA ls rs) ρ1 fun rs' ρ2 => Q (r' :: rs') ρ2 := by
  conv => lhs; unfold argSA
  simp only [vM_bd, vM_pr]
theorem vM_argS_fz {l : Bool} {d : D} {Q : Rs → List Sl → Prop} : vM (argS l (.fz d)) ρ Q = Q (.fz d) ρ := rfl
theorem vM_argS_ow {l : Bool} {d : D} {Q : Rs → List Sl → Prop} : vM (argS l (.ow d)) ρ Q = Q (.ow d) ρ := rfl
def argK (o : Option Sl) (l : Bool) (i : Nat) (ρ : List Sl) (Q : Rs → List Sl → Prop) (_ : Tag Q := .mk) : Prop := match o with
  | some (.fz d) => Q (.fz d) ρ
  | some (.ow d) => if l then Q (.nm i) ρ else Q (.fz d) (ρ.set i (.fz d))
  | some (.lk d) => if l then Q (.nm i) ρ else Q (.fz d) (ρ.set i (.fz d))
  | _ => False
theorem vM_argS_nm {l : Bool} {i : Nat} {Q : Rs → List Sl → Prop} : vM (argS l (.nm i)) ρ Q = argK ρ[i]? l i ρ Q := by
  unfold vM argS argK
  simp only
  cases ρ[i]? with
  | none => rfl
  | some s => cases s <;> cases l <;> rfl
theorem argK_fz {l : Bool} {i : Nat} {d : D} {Q : Rs → List Sl → Prop} : argK (some (.fz d)) l i ρ Q = Q (.fz d) ρ := rfl
theorem argK_owt {i : Nat} {d : D} {Q : Rs → List Sl → Prop} : argK (some (.ow d)) true i ρ Q = Q (.nm i) ρ := rfl
theorem argK_owf {i : Nat} {d : D} {Q : Rs → List Sl → Prop} : argK (some (.ow d)) false i ρ Q = Q (.fz d) (ρ.set i (.fz d)) := rfl
theorem argK_lkt {i : Nat} {d : D} {Q : Rs → List Sl → Prop} : argK (some (.lk d)) true i ρ Q = Q (.nm i) ρ := rfl
theorem argK_lkf {i : Nat} {d : D} {Q : Rs → List Sl → Prop} : argK (some (.lk d)) false i ρ Q = Q (.fz d) (ρ.set i (.fz d)) := rfl
def v_mutK (o : Option Sl) (i : Nat) (c : D → Bool) (fr : Bool) (g : D → List D → Option (D × D)) (f : M (List Rs)) (ρ : List Sl) (Q : Rs → List Sl → Prop) : Prop := match o with
  | some (.ow d0) => c d0 = true ∧ vM f ρ fun rs ρ1 => vM (if fr = true then frzA rs else lookA rs) ρ1 fun ds ρ2 => match ρ2[i]? with
    | some (.ow d) => vO (g d ds) fun p => Q (.fz p.2) (ρ2.set i (.ow p.1))
    | _ => False
  | _ => False
theorem vM_mut {i : Nat} {c : D → Bool} {fr : Bool} {g : D → List D → Option (D × D)} {f : M (List Rs)} {Q : Rs → List Sl → Prop} : vM (dMut i c fr g f) ρ Q = v_mutK ρ[i]? i c fr g f ρ Q := by
  unfold v_mutK
  cases h : ρ[i]? with
  | none => unfold vM dMut; rw [h]; rfl
  | some s =>
    cases s with
    | ow d0 =>
      simp only
      by_cases hc : c d0 = true
      · have : dMut i c fr g f ρ = bd f (fun rs => bd (if fr = true then frzA rs else lookA rs) fun ds => fun ρ1 => match ρ1[i]? with
          | some (.ow d) => match g d ds with
            | some (d', res) => .ok (.fz res) (ρ1.set i (.ow d'))
            | none => .bad
          | _ => .bad) ρ := by unfold dMut; rw [h]; simp only [hc, if_true] <;> rfl
        unfold vM
        rw [this]
        show vM (bd f _) ρ Q = _
        simp only [hc, true_and, vM_bd]
        congr 1; funext rs ρ1; congr 1; funext ds ρ2
        unfold vM
        dsimp only
        cases h2 : ρ2[i]? with
        | none => rfl
        | some s2 =>
          cases s2 with
          | ow d =>
            simp only
            cases g d ds with
            | none => rfl
            | some p => rfl
          | em => rfl
          | fz _ => rfl
          | lk _ => rfl
      · unfold vM dMut; rw [h]; simp only [if_neg hc]; exact propext ⟨fun z => z.elim, fun z => (hc z.1).elim⟩
    | em => unfold vM dMut; rw [h]; rfl
    | fz _ => unfold vM dMut; rw [h]; rfl
    | lk _ => unfold vM dMut; rw [h]; rfl
-- tests
theorem vM_yes {Q : Bool → List Sl → Prop} : vM dYes ρ Q = Q true ρ := rfl
-- statements
theorem vS_seq {f g : DS} : vS (dSeq f g) ρ N T B C = vS f ρ (fun ρ1 => vS g ρ1 N T B C) T B C := by
  unfold vS dSeq; cases f ρ <;> rfl
theorem vS_pass : vS dPass ρ N T B C = N ρ := rfl
theorem vS_brk : vS dBrk ρ N T B C = B ρ := rfl
theorem vS_cnt : vS dCnt ρ N T B C = C ρ := rfl
theorem vS_ret {f : M Rs} : vS (dRet f) ρ N T B C = vM f ρ T := by unfold vS dRet vM vR; cases f ρ <;> rfl
theorem vS_drop {f : M Rs} : vS (dDrop f) ρ N T B C = vM f ρ fun _ ρ1 => N ρ1 := by unfold vS dDrop vM vR; cases f ρ <;> rfl
theorem vS_if {c : M Bool} {f g : DS} : vS (dIf c f g) ρ N T B C = vM c ρ fun b ρ1 => if b = true then vS f ρ1 N T B C else vS g ρ1 N T B C := by
  unfold vS dIf vM vR
  cases c ρ with
  | bad => rfl
  | ok b ρ' => cases b <;> rfl
theorem vS_set {i : Nat} {f : M Rs} : vS (dSet i f) ρ N T B C = vM f ρ fun r ρ1 => vO (setR i r ρ1) N := by
  unfold vS dSet vM vR
  cases f ρ with
  | bad => rfl
  | ok r ρ1 => simp only; cases setR i r ρ1 <;> rfl
theorem vS_asg {g : DG} {f : M Rs} : vS (dAsg g f) ρ N T B C = vM f ρ fun r ρ1 => vM (frz r) ρ1 fun d ρ2 => vO (g d ρ2) N := by
  rw [← vM_bd]
  unfold vS dAsg vM vR
  cases bd f frz ρ with
  | bad => rfl
  | ok r ρ1 => simp only; cases g r ρ1 <;> rfl
theorem vS_par {is : List Nat} {f : M (List Rs)} : vS (dPar is f) ρ N T B C = vM f ρ fun rs ρ1 => vM (argSA (is.map fun _ => false) rs) ρ1 fun rs' ρ2 => vO (setQs is rs' ρ2) N := by
  rw [← vM_bd]
  unfold vS dPar vM vR
  cases bd f (argSA (is.map fun _ => false)) ρ with
  | bad => rfl
  | ok r ρ1 => simp only; cases setQs is r ρ1 <;> rfl
def v_putK' (o : Option Sl) (i : Nat) (k : Key) (dv : D) (ρ : List Sl) (N : List Sl → Prop) : Prop := match o with
  | some (.ow d) => vO (gPut d (kD k) dv) fun d' => N (ρ.set i (.ow d'))
  | _ => False
def isOw : Option Sl → Bool
  | some (.ow _) => true
  | _ => false
theorem vS_put {i : Nat} {fi fe : M Rs} : vS (dPut i fi fe) ρ N T B C = vM fe ρ fun r ρ1 => vM (frz r) ρ1 fun dv ρ2 => isOw ρ2[i]? = true ∧ vM (dKey fi) ρ2 fun k ρ3 => v_putK' ρ3[i]? i k dv ρ3 N := by
  rw [← vM_bd]
  unfold vS dPut
  conv => rhs; unfold vM vR
  cases bd fe frz ρ with
  | bad => rfl
  | ok dv ρ1 =>
    simp only
    cases ρ1[i]? with
    | none => simp [isOw]
    | some s =>
      cases s with
      | ow d0 =>
        simp only [isOw, true_and]
        cases dKey fi ρ1 with
        | bad => rfl
        | ok k ρ3 =>
          simp only
          unfold v_putK'
          cases ρ3[i]? with
          | none => rfl
          | some s3 =>
            cases s3 with
            | ow d => simp only; cases gPut d (kD k) dv <;> rfl
            | em => rfl
            | fz _ => rfl
            | lk _ => rfl
      | em => simp [isOw]
      | fz _ => simp [isOw]
      | lk _ => simp [isOw]
def fzO : Option Rs → Option D
  | some (.fz d) => some d
  | _ => none
def v_getK (o : Option Sl) (k : Key) (Q : D → Prop) : Prop := match o with
  | some (.ow d) => vO (gGet d (kD k)) Q
  | _ => False
theorem vS_augS {g : G2} {i : Nat} {fi fe : M Rs} : vS (dAugS g i fi fe) ρ N T B C = (isOw ρ[i]? = true ∧ vM (dKey fi) ρ fun k ρ1 => v_getK ρ1[i]? k fun old => vM fe ρ1 fun r ρ2 => vM (look r) ρ2 fun dv ρ3 => vO (fzO (g old dv)) fun dn => v_putK' ρ3[i]? i k dn ρ3 N) := by
  unfold vS dAugS
  cases ρ[i]? with
  | none => simp [isOw]
  | some s =>
    cases s with
    | em => simp [isOw]
    | fz _ => simp [isOw]
    | lk _ => simp [isOw]
    | ow d0 =>
      simp only [isOw, true_and]
      conv => rhs; unfold vM vR
      cases dKey fi ρ with
      | bad => rfl
      | ok k ρ1 =>
        simp only
        unfold v_getK
        cases ρ1[i]? with
        | none => rfl
        | some s1 =>
          cases s1 with
          | em => rfl
          | fz _ => rfl
          | lk _ => rfl
          | ow d1 =>
            simp only
            cases gGet d1 (kD k) with
            | none => rfl
            | some old =>
              simp only [vO]
              unfold bd
              cases fe ρ1 with
              | bad => rfl
              | ok r0 ρ1' =>
              simp only
              cases look r0 ρ1' with
              | bad => rfl
              | ok dv ρ2 =>
                simp only
                cases g old dv with
                | none => rfl
                | some r =>
                  cases r with
                  | ow _ => rfl
                  | nm _ => rfl
                  | fz dn =>
                    simp only [fzO]
                    unfold v_putK'
                    cases ρ2[i]? with
                    | none => rfl
                    | some s3 =>
                      cases s3 with
                      | ow d => simp only; cases gPut d (kD k) dn <;> rfl
                      | em => rfl
                      | fz _ => rfl
                      | lk _ => rfl
theorem fzO_fz {d : D} : fzO (some (.fz d)) = some d := rfl
def augK (o : Option Sl) (Q : D → Prop) (_ : Tag Q := .mk) : Prop := match o with
  | some (.fz d) => Q d
  | _ => False
theorem augK_fz {d : D} {Q : D → Prop} : augK (some (.fz d)) Q = Q d := rfl
theorem vS_aug {g : G2} {i : Nat} {fe : M Rs} : vS (dAug g i fe) ρ N T B C = augK ρ[i]? fun d => vM fe ρ fun r ρ1 => vM (look r) ρ1 fun dv ρ2 => vO (fzO (g d dv)) fun dn => vO (setR i (.fz dn) ρ2) N := by
  unfold vS dAug augK
  cases ρ[i]? with
  | none => rfl
  | some s =>
    cases s with
    | em => rfl
    | ow _ => rfl
    | lk _ => rfl
    | fz d =>
      simp only
      rw [← vM_bd]
      unfold vM vR
      cases bd fe look ρ with
      | bad => rfl
      | ok dv ρ1 =>
        simp only
        cases g d dv with
        | none => rfl
        | some r =>
          cases r with
          | ow _ => rfl
          | nm _ => rfl
          | fz dn =>
            simp only [fzO, vO, setR]
            by_cases h : i < ρ1.length
            · simp only [h, if_true]
            · simp only [h, if_false]
/-- a def's promise -/
theorem vM_run {ms : List Bool} {n : Nat} {body : DS} {Q : Rs → List Sl → Prop} : vM (runDef ms n body) ρ Q = vS body (ρ ++ List.replicate (n - ρ.length) .em) (fun ρ' => Q (.fz .none) (outP ms ρ')) (fun r ρ' => match r with
    | .fz d => Q (.fz d) (outP ms ρ')
    | .ow d => Q (.ow d) (outP ms ρ')
    | .nm i => match ρ'[i]? with
      | some (.fz d) => Q (.fz d) (outP ms ρ')
      | some (.ow d) => if ms.length ≤ i then Q (.ow d) (outP ms ρ') else Q (.fz d) (outP ms (ρ'.set i (.fz d)))
      | some (.lk d) => Q (.fz d) (outP ms (ρ'.set i (.fz d)))
      | _ => False) nope nope := by
  unfold vM runDef vS
  cases body (ρ ++ List.replicate (n - ρ.length) .em) with
  | nx ρ' => rfl
  | bk ρ' => rfl
  | ct ρ' => rfl
  | bad => rfl
  | rt r ρ' =>
    cases r with
    | fz d => rfl
    | ow d => rfl
    | nm i =>
      simp only
      cases ρ'[i]? with
      | none => rfl
      | some s =>
        cases s with
        | ow d => simp only; by_cases h : ms.length ≤ i <;> simp only [h, if_true, if_false] <;> rfl
        | _ => rfl
/-! ### loops -/
theorem vS_forGo {g : DG} {body : DS} (I : Nat → List Sl → Prop) {T : Rs → List Sl → Prop} {Bk : List Sl → Prop} : ∀ (ds : List D) (j : Nat) (ρ : List Sl), I j ρ →
    (∀ k d ρ, ds[k]? = some d → I (j + k) ρ → vO (g d ρ) fun ρ1 => vS body ρ1 (I (j + k + 1)) T Bk (I (j + k + 1))) → vS (forGo g body ds) ρ (fun ρ => I (j + ds.length) ρ ∨ Bk ρ) T nope nope
  | [], j, ρ, h, _ => by unfold vS forGo; exact .inl h
  | d :: ds, j, ρ, h, st => by
    have h0 := st 0 d ρ rfl h
    unfold vS forGo
    cases e : g d ρ with
    | none => rw [e] at h0; exact h0.elim
    | some ρ1 =>
      rw [e] at h0
      have h0 : vS body ρ1 (I (j + 0 + 1)) T Bk (I (j + 0 + 1)) := h0
      unfold vS at h0
      have next : ∀ ρ2, I (j + 1) ρ2 → vS (forGo g body ds) ρ2 (fun ρ => I (j + (d :: ds).length) ρ ∨ Bk ρ) T nope nope := fun ρ2 h2 => by
        have q := vS_forGo (T := T) (Bk := Bk) I ds (j + 1) ρ2 h2 fun k d' ρ3 hk hi => by
          have := st (k + 1) d' ρ3 (by simpa using hk) (by rw [show j + (k + 1) = j + 1 + k by omega]; exact hi)
          rw [show j + (k + 1) = j + 1 + k by omega] at this; exact this
        rw [show j + (d :: ds).length = j + 1 + ds.length by rw [List.length_cons]; omega]; exact q
      simp only
      cases eb : body ρ1 with
      | nx ρ2 => rw [eb] at h0; exact next ρ2 h0
      | ct ρ2 => rw [eb] at h0; exact next ρ2 h0
      | bk ρ2 => rw [eb] at h0; exact .inr h0
      | rt r ρ2 => rw [eb] at h0; exact h0
      | bad => rw [eb] at h0; exact h0.elim
theorem vS_for {w : M Wk} {g : DG} {body : DS} (h : vM w ρ fun p ρ1 => ∃ I : Nat → List Sl → Prop, I 0 ρ1 ∧ (∀ k d ρ, p.1[k]? = some d → I k ρ → vO (g d ρ) fun ρ2 => vS body ρ2 (I (k + 1)) (fun r ρ => T r (unl p.2 ρ)) (fun ρ => N (unl p.2 ρ)) (I (k + 1))) ∧ ∀ ρ, I p.1.length ρ → N (unl p.2 ρ)) :
    vS (dFor w g body) ρ N T B C := by
  obtain ⟨⟨ds, l⟩, ρ1, e, I, h0, st, fin⟩ := vM_iff.mp h
  unfold vS dFor
  rw [e]
  have q := vS_forGo (g := g) (body := body) (T := fun r ρ => T r (unl l ρ)) (Bk := fun ρ => N (unl l ρ)) I ds 0 ρ1 h0 fun k d ρ hk hi => by
    rw [Nat.zero_add] at hi ⊢; exact st k d ρ hk hi
  simp only
  unfold vS at q
  cases ef : forGo g body ds ρ1 with
  | nx ρ2 =>
    rw [ef] at q
    rcases q with q | q
    · exact fin ρ2 (by rw [Nat.zero_add] at q; exact q)
    · exact q
  | rt r ρ2 => rw [ef] at q; exact q
  | bk ρ2 => rw [ef] at q; exact q.elim
  | ct ρ2 => rw [ef] at q; exact q.elim
  | bad => rw [ef] at q; exact q.elim
/-! ### comprehensions -/
theorem vM_lcGo {own : List Nat} {g : DG} {tt : M Bool} {te : M Rs} (I : Nat → List D → List Sl → Prop) : ∀ (ds : List D) (j : Nat) (acc : List D) (ρ : List Sl), I j acc ρ →
    (∀ k d acc ρ, ds[k]? = some d → I (j + k) acc ρ → vO (g d ρ) fun ρ1 => vM tt ρ1 fun b ρ2 => if b = true then vM te ρ2 fun r ρ3 => vM (frz r) ρ3 fun x ρ4 => I (j + k + 1) (acc ++ [x]) (wipeR own ρ4) else I (j + k + 1) acc (wipeR own ρ2)) →
    vM (lcGo own g tt te ds acc) ρ fun acc ρ => I (j + ds.length) acc ρ
  | [], j, acc, ρ, h, _ => h
  | d :: ds, j, acc, ρ, h, st => by
    have h0 := st 0 d acc ρ rfl h
    have next : ∀ acc2 ρ2, I (j + 1) acc2 ρ2 → vM (lcGo own g tt te ds acc2) ρ2 fun acc ρ => I (j + (d :: ds).length) acc ρ := fun acc2 ρ2 h2 => by
      have q := vM_lcGo I ds (j + 1) acc2 ρ2 h2 fun k d' acc3 ρ3 hk hi => by
        have := st (k + 1) d' acc3 ρ3 (by simpa using hk) (by rw [show j + (k + 1) = j + 1 + k by omega]; exact hi)
        rw [show j + (k + 1) = j + 1 + k by omega] at this; exact this
      rw [show j + (d :: ds).length = j + 1 + ds.length by rw [List.length_cons]; omega]; exact q
    unfold vM lcGo
    cases e : g d ρ with
    | none => rw [e] at h0; exact h0.elim
    | some ρ1 =>
      rw [e] at h0
      have h0 : vM tt ρ1 _ := h0
      obtain ⟨b, ρ2, e2, q⟩ := vM_iff.mp h0
      simp only [e2]
      cases b with
      | false => exact next _ _ q
      | true =>
        rw [if_pos rfl, ← vM_bd] at q
        obtain ⟨x, ρ3, e3, q⟩ := vM_iff.mp q
        simp only [e3]
        exact next _ _ q
/-- the rule of a comprehension -/
theorem vM_lc {own : List Nat} {w : M Wk} {g : DG} {tt : M Bool} {te : M Rs} {Q : Rs → List Sl → Prop} (h : vM w ρ fun p ρ1 => p.1.length ≤ sizeLine ∧ ∃ I : Nat → List D → List Sl → Prop, I 0 [] (wipeR own ρ1) ∧
    (∀ k d acc ρ, p.1[k]? = some d → I k acc ρ → vO (g d ρ) fun ρ1 => vM tt ρ1 fun b ρ2 => if b = true then vM te ρ2 fun r ρ3 => vM (frz r) ρ3 fun x ρ4 => I (k + 1) (acc ++ [x]) (wipeR own ρ4) else I (k + 1) acc (wipeR own ρ2)) ∧
    ∀ acc ρ2, I p.1.length acc ρ2 → Q (.ow (.list acc)) (unl p.2 (restore own ρ1 ρ2))) : vM (dLc own w g tt te) ρ Q := by
  obtain ⟨⟨ds, l⟩, ρ1, e, hl, I, h0, st, fin⟩ := vM_iff.mp h
  unfold vM dLc
  rw [e]
  simp only [show ds.length ≤ sizeLine from hl, if_true]
  obtain ⟨acc, ρ2, e2, q⟩ := vM_iff.mp (vM_lcGo (own := own) (g := g) (tt := tt) (te := te) I ds 0 [] _ h0 fun k d acc ρ hk hi => by rw [Nat.zero_add] at hi ⊢; exact st k d acc ρ hk hi)
  rw [Nat.zero_add] at q
  rw [e2]
  exact fin acc ρ2 q
/-- a comprehension that changes nothing, over coded items -/
theorem vM_lcMap {α : Type} {own : List Nat} {w : M Wk} {g : DG} {tt : M Bool} {te : M Rs} {Q : Rs → List Sl → Prop} (enc : α → D) (xs : List α) (p : α → Bool) (f : α → D) (h : vM w ρ fun q ρ1 => q.1 = xs.map enc ∧ xs.length ≤ sizeLine ∧
    (∀ x ∈ xs, vO (g (enc x) (wipeR own ρ1)) fun ρ2 => vM tt ρ2 fun b ρ3 => b = p x ∧ if b = true then vM te ρ3 fun r ρ4 => vM (frz r) ρ4 fun y ρ5 => y = f x ∧ wipeR own ρ5 = wipeR own ρ1 else wipeR own ρ3 = wipeR own ρ1) ∧
    Q (.ow (.list ((xs.filter p).map f))) (unl q.2 (restore own ρ1 (wipeR own ρ1)))) : vM (dLc own w g tt te) ρ Q := by
  refine vM_lc (vM_mono h fun q ρ1 ⟨h1, h2, h3, h4⟩ => ⟨by rw [h1, List.length_map]; exact h2, fun k acc ρ2 => acc = ((xs.take k).filter p).map f ∧ ρ2 = wipeR own ρ1, ⟨by simp, rfl⟩, fun k d acc ρ2 hd hI => ?_, fun acc ρ2 hI => ?_⟩)
  · obtain ⟨rfl, rfl⟩ := hI
    rw [h1, List.getElem?_map] at hd
    cases ex : xs[k]? with
    | none => rw [ex] at hd; cases hd
    | some x =>
      rw [ex] at hd; cases hd
      have hk := (List.getElem?_eq_some_iff.mp ex).1
      have hx := (List.getElem?_eq_some_iff.mp ex).2
      have mem : x ∈ xs := hx ▸ List.getElem_mem hk
      have q0 := h3 x mem
      have tk : xs.take (k + 1) = xs.take k ++ [x] := by rw [List.take_add_one, ex]; rfl
      cases eg : g (enc x) (wipeR own ρ1) with
      | none => rw [eg] at q0; exact q0
      | some ρ2 =>
        rw [eg] at q0
        refine vM_mono (show vM tt ρ2 _ from q0) fun b ρ3 ⟨hb, q1⟩ => ?_
        subst hb
        by_cases hp : p x = true
        · rw [if_pos hp] at q1 ⊢
          refine vM_mono q1 fun r ρ4 q2 => vM_mono q2 fun y ρ5 ⟨e1, e2⟩ => ⟨?_, e2⟩
          rw [tk, List.filter_append, List.map_append, List.filter_cons, if_pos hp, e1]; rfl
        · rw [if_neg hp] at q1 ⊢
          refine ⟨?_, q1⟩
          rw [tk, List.filter_append, List.map_append, List.filter_cons, if_neg hp]; simp
  · obtain ⟨rfl, rfl⟩ := hI
    rw [h1, List.length_map, List.take_length]
    exact h4
theorem vM_wk {f : M Rs} {Q : Wk → List Sl → Prop} : vM (dWk f) ρ Q = vM f ρ fun r ρ1 => vM (dWk (pr r)) ρ1 Q := by
  unfold dWk; simp only [vM_bd, vM_pr]
end
end DL
/-! the rules over closed predicates (nothing unfolds them) -/
namespace DL
open PySem L2
structure wM {α : Type} (m : M α) (ρ : List Sl) (Q : α → List Sl → Prop) (_ : Tag Q := .mk) : Prop where
  run : vM m ρ Q
structure wO {α : Type} (o : Option α) (Q : α → Prop) (_ : Tag Q := .mk) : Prop where
  run : vO o Q
structure wS (s : DS) (ρ : List Sl) (N : List Sl → Prop) (T : Rs → List Sl → Prop) (B C : List Sl → Prop) (_ : Tag (N, T, B, C) := .mk) : Prop where
  run : vS s ρ N T B C
theorem wM_def {α : Type} (m : M α) (ρ : List Sl) (Q : α → List Sl → Prop) : wM m ρ Q = vM m ρ Q := propext ⟨fun h => h.run, fun h => ⟨h⟩⟩
theorem wO_def {α : Type} (o : Option α) (Q : α → Prop) : wO o Q = vO o Q := propext ⟨fun h => h.run, fun h => ⟨h⟩⟩
theorem wS_def (s : DS) (ρ : List Sl) (N : List Sl → Prop) (T : Rs → List Sl → Prop) (B C : List Sl → Prop) : wS s ρ N T B C = vS s ρ N T B C := propext ⟨fun h => h.run, fun h => ⟨h⟩⟩
section
variable {α β : Type} {ρ : List Sl} {N : List Sl → Prop} {T : Rs → List Sl → Prop} {B C : List Sl → Prop}
def mutK (o : Option Sl) (i : Nat) (c : D → Bool) (fr : Bool) (g : D → List D → Option (D × D)) (f : M (List Rs)) (ρ : List Sl) (Q : Rs → List Sl → Prop) (_ : Tag Q := .mk) : Prop := match o with
  | some (.ow d0) => c d0 = true ∧ wM f ρ fun rs ρ1 => wM (if fr = true then frzA rs else lookA rs) ρ1 fun ds ρ2 => match ρ2[i]? with
    | some (.ow d) => wO (g d ds) fun p => Q (.fz p.2) (ρ2.set i (.ow p.1))
    | _ => False
  | _ => False
theorem mutK_def (o : Option Sl) (i : Nat) (c : D → Bool) (fr : Bool) (g : D → List D → Option (D × D)) (f : M (List Rs)) (ρ : List Sl) (Q : Rs → List Sl → Prop) : mutK o i c fr g f ρ Q = v_mutK o i c fr g f ρ Q := by
  unfold mutK v_mutK
  simp only [wM_def, wO_def] <;> rfl
def putK' (o : Option Sl) (i : Nat) (k : Key) (dv : D) (ρ : List Sl) (N : List Sl → Prop) (_ : Tag N := .mk) : Prop := match o with
  | some (.ow d) => wO (gPut d (kD k) dv) fun d' => N (ρ.set i (.ow d'))
  | _ => False
theorem putK'_def (o : Option Sl) (i : Nat) (k : Key) (dv : D) (ρ : List Sl) (N : List Sl → Prop) : putK' o i k dv ρ N = v_putK' o i k dv ρ N := by
  unfold putK' v_putK'
  simp only [wO_def] <;> rfl
def getK (o : Option Sl) (k : Key) (Q : D → Prop) (_ : Tag Q := .mk) : Prop := match o with
  | some (.ow d) => wO (gGet d (kD k)) Q
  | _ => False
theorem getK_def (o : Option Sl) (k : Key) (Q : D → Prop) : getK o k Q = v_getK o k Q := by
  unfold getK v_getK
  simp only [wO_def] <;> rfl
theorem wM_iff {α : Type} {m : M α} {ρ : List Sl} {Q : α → List Sl → Prop} : wM m ρ Q ↔ ∃ a ρ', m ρ = .ok a ρ' ∧ Q a ρ' := by
  rw [wM_def]; exact vM_iff
theorem wM_eq {α : Type} {m : M α} {ρ ρ' : List Sl} {a : α} (h : wM m ρ fun b ρ1 => b = a ∧ ρ1 = ρ') : m ρ = .ok a ρ' := by
  rw [wM_def] at h; exact vM_eq h
theorem wM_mono {α : Type} {m : M α} {ρ : List Sl} {Q Q' : α → List Sl → Prop} (h : wM m ρ Q) (i : ∀ a ρ', Q a ρ' → Q' a ρ') : wM m ρ Q' := by
  rw [wM_def] at h ⊢; exact vM_mono h i
theorem wS_mono {s : DS} {ρ : List Sl} {N N' : List Sl → Prop} {T T' : Rs → List Sl → Prop} {B B' C C' : List Sl → Prop} (h : wS s ρ N T B C) (n : ∀ ρ, N ρ → N' ρ) (t : ∀ r ρ, T r ρ → T' r ρ) (b : ∀ ρ, B ρ → B' ρ) (c : ∀ ρ, C ρ → C' ρ) : wS s ρ N' T' B' C' := by
  rw [wS_def] at h ⊢; exact vS_mono h n t b c
theorem wM_bd {m : M α} {k : α → M β} {Q : β → List Sl → Prop} : wM (bd m k) ρ Q = wM m ρ fun a ρ1 => wM (k a) ρ1 Q := by
  simp only [wM_def, wO_def, wS_def, mutK_def, putK'_def, getK_def]; exact vM_bd
theorem wM_pr {a : α} {Q : α → List Sl → Prop} : wM (pr a) ρ Q = Q a ρ := by
  simp only [wM_def, wO_def, wS_def, mutK_def, putK'_def, getK_def]; exact vM_pr
theorem wM_opt {o : Option α} {Q : α → List Sl → Prop} : wM (opt o) ρ Q = wO o fun a => Q a ρ := by
  simp only [wM_def, wO_def, wS_def, mutK_def, putK'_def, getK_def]; exact vM_opt
theorem wO_some {a : α} {Q : α → Prop} : wO (some a) Q = Q a := by
  simp only [wM_def, wO_def, wS_def, mutK_def, putK'_def, getK_def]; exact vO_some
theorem wM_C {d : D} {Q : Rs → List Sl → Prop} : wM (dC d) ρ Q = Q (.fz d) ρ := by
  simp only [wM_def, wO_def, wS_def, mutK_def, putK'_def, getK_def]; exact vM_C
theorem wM_var {i : Nat} {Q : Rs → List Sl → Prop} : wM (dVar i) ρ Q = varK ρ[i]? i ρ Q := by
  simp only [wM_def, wO_def, wS_def, mutK_def, putK'_def, getK_def]; exact vM_var
theorem wM_look_fz {d : D} {Q : D → List Sl → Prop} : wM (look (.fz d)) ρ Q = Q d ρ := by
  simp only [wM_def, wO_def, wS_def, mutK_def, putK'_def, getK_def]; exact vM_look_fz
theorem wM_look_ow {d : D} {Q : D → List Sl → Prop} : wM (look (.ow d)) ρ Q = Q d ρ := by
  simp only [wM_def, wO_def, wS_def, mutK_def, putK'_def, getK_def]; exact vM_look_ow
theorem wM_look_nm {i : Nat} {Q : D → List Sl → Prop} : wM (look (.nm i)) ρ Q = lookK ρ[i]? ρ Q := by
  simp only [wM_def, wO_def, wS_def, mutK_def, putK'_def, getK_def]; exact vM_look_nm
theorem wM_frz_fz {d : D} {Q : D → List Sl → Prop} : wM (frz (.fz d)) ρ Q = Q d ρ := by
  simp only [wM_def, wO_def, wS_def, mutK_def, putK'_def, getK_def]; exact vM_frz_fz
theorem wM_frz_ow {d : D} {Q : D → List Sl → Prop} : wM (frz (.ow d)) ρ Q = Q d ρ := by
  simp only [wM_def, wO_def, wS_def, mutK_def, putK'_def, getK_def]; exact vM_frz_ow
theorem wM_frz_nm {i : Nat} {Q : D → List Sl → Prop} : wM (frz (.nm i)) ρ Q = frzK ρ[i]? i ρ Q := by
  simp only [wM_def, wO_def, wS_def, mutK_def, putK'_def, getK_def]; exact vM_frz_nm
theorem wM_op2 {g : G2} {a b : M Rs} {Q : Rs → List Sl → Prop} : wM (dOp2 g a b) ρ Q = wM a ρ fun ra ρ1 => wM b ρ1 fun rb ρ2 => wM (look ra) ρ2 fun da ρ3 => wM (look rb) ρ3 fun db ρ4 => wO (g da db) fun r => Q r ρ4 := by
  simp only [wM_def, wO_def, wS_def, mutK_def, putK'_def, getK_def]; exact vM_op2
theorem wM_op2T {g : D → D → Option Bool} {a b : M Rs} {Q : Bool → List Sl → Prop} : wM (dOp2T g a b) ρ Q = wM a ρ fun ra ρ1 => wM b ρ1 fun rb ρ2 => wM (look ra) ρ2 fun da ρ3 => wM (look rb) ρ3 fun db ρ4 => wO (g da db) fun r => Q r ρ4 := by
  simp only [wM_def, wO_def, wS_def, mutK_def, putK'_def, getK_def]; exact vM_op2T
theorem wO_gB {g : D → D → Option Bool} {x y : D} {Q : Rs → Prop} : wO (gB g x y) Q = wO (g x y) fun k => Q (.fz (.bool k)) := by
  simp only [wM_def, wO_def, wS_def, mutK_def, putK'_def, getK_def]; exact vO_gB
theorem wM_op1 {g : D → Option Rs} {a : M Rs} {Q : Rs → List Sl → Prop} : wM (dOp1 g a) ρ Q = wM a ρ fun ra ρ1 => wM (look ra) ρ1 fun da ρ2 => wO (g da) fun r => Q r ρ2 := by
  simp only [wM_def, wO_def, wS_def, mutK_def, putK'_def, getK_def]; exact vM_op1
theorem wM_nil {Q : List Rs → List Sl → Prop} : wM dNil ρ Q = Q [] ρ := by
  simp only [wM_def, wO_def, wS_def, mutK_def, putK'_def, getK_def]; exact vM_nil
theorem wM_cons {f : M Rs} {g : M (List Rs)} {Q : List Rs → List Sl → Prop} : wM (dCons f g) ρ Q = wM f ρ fun r ρ1 => wM g ρ1 fun rs ρ2 => Q (r :: rs) ρ2 := by
  simp only [wM_def, wO_def, wS_def, mutK_def, putK'_def, getK_def]; exact vM_cons
theorem wM_frzA0 {Q : List D → List Sl → Prop} : wM (frzA []) ρ Q = Q [] ρ := by
  simp only [wM_def, wO_def, wS_def, mutK_def, putK'_def, getK_def]; exact vM_frzA0
theorem wM_frzA {r : Rs} {rs : List Rs} {Q : List D → List Sl → Prop} : wM (frzA (r :: rs)) ρ Q = wM (frz r) ρ fun d ρ1 => wM (frzA rs) ρ1 fun ds ρ2 => Q (d :: ds) ρ2 := by
  simp only [wM_def, wO_def, wS_def, mutK_def, putK'_def, getK_def]; exact vM_frzA
theorem wM_lookA0 {Q : List D → List Sl → Prop} : wM (lookA []) ρ Q = Q [] ρ := by
  simp only [wM_def, wO_def, wS_def, mutK_def, putK'_def, getK_def]; exact vM_lookA0
theorem wM_lookA {r : Rs} {rs : List Rs} {Q : List D → List Sl → Prop} : wM (lookA (r :: rs)) ρ Q = wM (look r) ρ fun d ρ1 => wM (lookA rs) ρ1 fun ds ρ2 => Q (d :: ds) ρ2 := by
  simp only [wM_def, wO_def, wS_def, mutK_def, putK'_def, getK_def]; exact vM_lookA
theorem wM_tup {f : M (List Rs)} {Q : Rs → List Sl → Prop} : wM (dTup f) ρ Q = wM f ρ fun rs ρ1 => wM (frzA rs) ρ1 fun ds ρ2 => ds.length ≤ 1000 ∧ Q (.fz (.tuple ds)) ρ2 := by
  simp only [wM_def, wO_def, wS_def, mutK_def, putK'_def, getK_def]; exact vM_tup
theorem wM_lst {f : M (List Rs)} {Q : Rs → List Sl → Prop} : wM (dLst f) ρ Q = wM f ρ fun rs ρ1 => wM (frzA rs) ρ1 fun ds ρ2 => ds.length ≤ 1000 ∧ Q (.ow (.list ds)) ρ2 := by
  simp only [wM_def, wO_def, wS_def, mutK_def, putK'_def, getK_def]; exact vM_lst
theorem wM_B {g : List D → Option Rs} {f : M (List Rs)} {Q : Rs → List Sl → Prop} : wM (dB g f) ρ Q = wM f ρ fun rs ρ1 => wM (lookA rs) ρ1 fun ds ρ2 => wO (g ds) fun r => Q r ρ2 := by
  simp only [wM_def, wO_def, wS_def, mutK_def, putK'_def, getK_def]; exact vM_B
theorem wM_isi {T : Ty} {f : M Rs} {Q : Rs → List Sl → Prop} : wM (dIsi T f) ρ Q = wM f ρ fun r ρ1 => wM (look r) ρ1 fun d ρ2 => Q (.fz (.bool (isT T d))) ρ2 := by
  simp only [wM_def, wO_def, wS_def, mutK_def, putK'_def, getK_def]; exact vM_isi
theorem wM_me {c : D → Bool} {g : D → List D → Option Rs} {fo : M Rs} {fa : M (List Rs)} {Q : Rs → List Sl → Prop} : wM (dMe c g fo fa) ρ Q = wM fo ρ fun ro ρ1 => wM (look ro) ρ1 fun d0 ρ2 => c d0 = true ∧ wM fa ρ2 fun rs ρ3 => wM (look ro) ρ3 fun d ρ4 => wM (lookA rs) ρ4 fun ds ρ5 => wO (g d ds) fun r => Q r ρ5 := by
  simp only [wM_def, wO_def, wS_def, mutK_def, putK'_def, getK_def]; exact vM_me
theorem wM_sl {fa : M Rs} {fl fh : M (Option Int)} {Q : Rs → List Sl → Prop} : wM (dSl fa fl fh) ρ Q = wM fa ρ fun ra ρ1 => wM fl ρ1 fun l ρ2 => wM fh ρ2 fun h ρ3 => wM (look ra) ρ3 fun d ρ4 => wO (gSl d l h) fun r => Q r ρ4 := by
  simp only [wM_def, wO_def, wS_def, mutK_def, putK'_def, getK_def]; exact vM_sl
theorem wM_noP {Q : Option Int → List Sl → Prop} : wM dNoP ρ Q = Q none ρ := by
  simp only [wM_def, wO_def, wS_def, mutK_def, putK'_def, getK_def]; exact vM_noP
theorem wM_part {f : M Rs} {Q : Option Int → List Sl → Prop} : wM (dPart f) ρ Q = wM f ρ fun r ρ1 => wM (look r) ρ1 fun d ρ2 => wO (intD d) fun i => Q i ρ2 := by
  simp only [wM_def, wO_def, wS_def, mutK_def, putK'_def, getK_def]; exact vM_part
theorem wM_key {f : M Rs} {Q : Key → List Sl → Prop} : wM (dKey f) ρ Q = wM f ρ fun r ρ1 => wM (look r) ρ1 fun d ρ2 => wO (keyOf d) fun k => Q k ρ2 := by
  simp only [wM_def, wO_def, wS_def, mutK_def, putK'_def, getK_def]; exact vM_key
theorem wM_call {ls : List Bool} {sem : M Rs} {f : M (List Rs)} {Q : Rs → List Sl → Prop} : wM (dCall ls sem f) ρ Q = wM f ρ fun rs ρ1 => wM (argSA ls rs) ρ1 fun rs' ρ2 => (nmOk rs' && rs'.all (heldR ρ2)) = true ∧ callK sem rs' ρ2 Q := by
  simp only [wM_def, wO_def, wS_def, mutK_def, putK'_def, getK_def]; exact vM_call
theorem wM_argSA0 {Q : List Rs → List Sl → Prop} : wM (argSA [] []) ρ Q = Q [] ρ := by
  simp only [wM_def, wO_def, wS_def, mutK_def, putK'_def, getK_def]; exact vM_argSA0
theorem wM_argSA {l : Bool} {ls : List Bool} {r : Rs} {rs : List Rs} {Q : List Rs → List Sl → Prop} : wM (argSA (l :: ls) (r :: rs)) ρ Q = wM (argS l r) ρ fun r' ρ1 => wM (argSA ls rs) ρ1 fun rs' ρ2 => Q (r' :: rs') ρ2 := by
  simp only [wM_def, wO_def, wS_def, mutK_def, putK'_def, getK_def]; exact vM_argSA
theorem wM_argS_fz {l : Bool} {d : D} {Q : Rs → List Sl → Prop} : wM (argS l (.fz d)) ρ Q = Q (.fz d) ρ := by
  simp only [wM_def, wO_def, wS_def, mutK_def, putK'_def, getK_def]; exact vM_argS_fz
theorem wM_argS_ow {l : Bool} {d : D} {Q : Rs → List Sl → Prop} : wM (argS l (.ow d)) ρ Q = Q (.ow d) ρ := by
  simp only [wM_def, wO_def, wS_def, mutK_def, putK'_def, getK_def]; exact vM_argS_ow
theorem wM_argS_nm {l : Bool} {i : Nat} {Q : Rs → List Sl → Prop} : wM (argS l (.nm i)) ρ Q = argK ρ[i]? l i ρ Q := by
  simp only [wM_def, wO_def, wS_def, mutK_def, putK'_def, getK_def]; exact vM_argS_nm
theorem wM_mut {i : Nat} {c : D → Bool} {fr : Bool} {g : D → List D → Option (D × D)} {f : M (List Rs)} {Q : Rs → List Sl → Prop} : wM (dMut i c fr g f) ρ Q = mutK ρ[i]? i c fr g f ρ Q := by
  simp only [wM_def, wO_def, wS_def, mutK_def, putK'_def, getK_def]; exact vM_mut
theorem wM_yes {Q : Bool → List Sl → Prop} : wM dYes ρ Q = Q true ρ := by
  simp only [wM_def, wO_def, wS_def, mutK_def, putK'_def, getK_def]; exact vM_yes
theorem wS_seq {f g : DS} : wS (dSeq f g) ρ N T B C = wS f ρ (fun ρ1 => wS g ρ1 N T B C) T B C := by
  simp only [wM_def, wO_def, wS_def, mutK_def, putK'_def, getK_def]; exact vS_seq
theorem wS_pass : wS dPass ρ N T B C = N ρ := by
  simp only [wM_def, wO_def, wS_def, mutK_def, putK'_def, getK_def]; exact vS_pass
theorem wS_brk : wS dBrk ρ N T B C = B ρ := by
  simp only [wM_def, wO_def, wS_def, mutK_def, putK'_def, getK_def]; exact vS_brk
theorem wS_cnt : wS dCnt ρ N T B C = C ρ := by
  simp only [wM_def, wO_def, wS_def, mutK_def, putK'_def, getK_def]; exact vS_cnt
theorem wS_ret {f : M Rs} : wS (dRet f) ρ N T B C = wM f ρ T := by
  simp only [wM_def, wO_def, wS_def, mutK_def, putK'_def, getK_def]; exact vS_ret
theorem wS_drop {f : M Rs} : wS (dDrop f) ρ N T B C = wM f ρ fun _ ρ1 => N ρ1 := by
  simp only [wM_def, wO_def, wS_def, mutK_def, putK'_def, getK_def]; exact vS_drop
theorem wS_if {c : M Bool} {f g : DS} : wS (dIf c f g) ρ N T B C = wM c ρ fun b ρ1 => if b = true then wS f ρ1 N T B C else wS g ρ1 N T B C := by
  simp only [wM_def, wO_def, wS_def, mutK_def, putK'_def, getK_def]; exact vS_if
theorem wS_set {i : Nat} {f : M Rs} : wS (dSet i f) ρ N T B C = wM f ρ fun r ρ1 => wO (setR i r ρ1) N := by
  simp only [wM_def, wO_def, wS_def, mutK_def, putK'_def, getK_def]; exact vS_set
theorem wS_asg {g : DG} {f : M Rs} : wS (dAsg g f) ρ N T B C = wM f ρ fun r ρ1 => wM (frz r) ρ1 fun d ρ2 => wO (g d ρ2) N := by
  simp only [wM_def, wO_def, wS_def, mutK_def, putK'_def, getK_def]; exact vS_asg
theorem wS_par {is : List Nat} {f : M (List Rs)} : wS (dPar is f) ρ N T B C = wM f ρ fun rs ρ1 => wM (argSA (is.map fun _ => false) rs) ρ1 fun rs' ρ2 => wO (setQs is rs' ρ2) N := by
  simp only [wM_def, wO_def, wS_def, mutK_def, putK'_def, getK_def]; exact vS_par
theorem wS_put {i : Nat} {fi fe : M Rs} : wS (dPut i fi fe) ρ N T B C = wM fe ρ fun r ρ1 => wM (frz r) ρ1 fun dv ρ2 => isOw ρ2[i]? = true ∧ wM (dKey fi) ρ2 fun k ρ3 => putK' ρ3[i]? i k dv ρ3 N := by
  simp only [wM_def, wO_def, wS_def, mutK_def, putK'_def, getK_def]; exact vS_put
theorem wS_augS {g : G2} {i : Nat} {fi fe : M Rs} : wS (dAugS g i fi fe) ρ N T B C = (isOw ρ[i]? = true ∧ wM (dKey fi) ρ fun k ρ1 => getK ρ1[i]? k fun old => wM fe ρ1 fun r ρ2 => wM (look r) ρ2 fun dv ρ3 => wO (fzO (g old dv)) fun dn => putK' ρ3[i]? i k dn ρ3 N) := by
  simp only [wM_def, wO_def, wS_def, mutK_def, putK'_def, getK_def]; exact vS_augS
theorem wS_aug {g : G2} {i : Nat} {fe : M Rs} : wS (dAug g i fe) ρ N T B C = augK ρ[i]? fun d => wM fe ρ fun r ρ1 => wM (look r) ρ1 fun dv ρ2 => wO (fzO (g d dv)) fun dn => wO (setR i (.fz dn) ρ2) N := by
  rw [wS_def, vS_aug]
  have e : (fun d => wM fe ρ fun r ρ1 => wM (look r) ρ1 fun dv ρ2 => wO (fzO (g d dv)) fun dn => wO (setR i (.fz dn) ρ2) N) = fun d => vM fe ρ fun r ρ1 => vM (look r) ρ1 fun dv ρ2 => vO (fzO (g d dv)) fun dn => vO (setR i (.fz dn) ρ2) N := by
    funext d; simp only [wM_def, wO_def]
  rw [e]
theorem wS_for {w : M Wk} {g : DG} {body : DS} (h : wM w ρ fun p ρ1 => ∃ I : Nat → List Sl → Prop, I 0 ρ1 ∧ (∀ k d ρ, p.1[k]? = some d → I k ρ → wO (g d ρ) fun ρ2 => wS body ρ2 (I (k + 1)) (fun r ρ => T r (unl p.2 ρ)) (fun ρ => N (unl p.2 ρ)) (I (k + 1))) ∧ ∀ ρ, I p.1.length ρ → N (unl p.2 ρ)) :
    wS (dFor w g body) ρ N T B C := by
  simp only [wM_def, wO_def, wS_def, mutK_def, putK'_def, getK_def] at h ⊢; exact vS_for h
theorem wM_lcMap {α : Type} {own : List Nat} {w : M Wk} {g : DG} {tt : M Bool} {te : M Rs} {Q : Rs → List Sl → Prop} (enc : α → D) (xs : List α) (p : α → Bool) (f : α → D) (h : wM w ρ fun q ρ1 => q.1 = xs.map enc ∧ xs.length ≤ sizeLine ∧
    (∀ x ∈ xs, wO (g (enc x) (wipeR own ρ1)) fun ρ2 => wM tt ρ2 fun b ρ3 => b = p x ∧ if b = true then wM te ρ3 fun r ρ4 => wM (frz r) ρ4 fun y ρ5 => y = f x ∧ wipeR own ρ5 = wipeR own ρ1 else wipeR own ρ3 = wipeR own ρ1) ∧
    Q (.ow (.list ((xs.filter p).map f))) (unl q.2 (restore own ρ1 (wipeR own ρ1)))) : wM (dLc own w g tt te) ρ Q := by
  simp only [wM_def, wO_def, wS_def, mutK_def, putK'_def, getK_def] at h ⊢; exact vM_lcMap enc xs p f h
theorem putK'_ow {i : Nat} {k : Key} {dv d : D} : putK' (some (.ow d)) i k dv ρ N = wO (gPut d (kD k) dv) fun d' => N (ρ.set i (.ow d')) := rfl
theorem getK_ow {k : Key} {d : D} {Q : D → Prop} : getK (some (.ow d)) k Q = wO (gGet d (kD k)) Q := rfl
end
end DL
namespace DL
open PySem L2
/-! ### the reckoning of data -/
section
variable {i j : Int} {x y : Str} {ds es : List D} {d e : D} {n : Nat}
theorem gAdd_ii : gAdd (.int i) (.int j) = some (.fz (.int (i + j))) := rfl
theorem gAdd_ll (h : ds.length + es.length ≤ sizeLine) : gAdd (.list ds) (.list es) = some (.ow (.list (ds ++ es))) := if_pos h
theorem gSub_ii : gSub (.int i) (.int j) = some (.fz (.int (i - j))) := rfl
theorem gMul_l (h1 : -18446744073709551616 < i) (h2 : i < 18446744073709551616) : gMul (.int i) (.int j) = some (.fz (.int (i * j))) := if_pos (by unfold mulOk; rw [Bool.or_eq_true, decide_eq_true_eq]; exact .inl ⟨h1, h2⟩)
theorem gMul_r (h1 : -18446744073709551616 < j) (h2 : j < 18446744073709551616) : gMul (.int i) (.int j) = some (.fz (.int (i * j))) := if_pos (by unfold mulOk; rw [Bool.or_eq_true, decide_eq_true_eq, decide_eq_true_eq]; exact .inr ⟨h1, h2⟩)
theorem gDiv_ii (h1 : 0 < j) (h2 : j < 1073741824) : gDiv (.int i) (.int j) = some (.fz (.int (i / j))) := if_pos ⟨h1, h2⟩
theorem gMod_ii (h1 : 0 < j) : gMod (.int i) (.int j) = some (.fz (.int (i % j))) := if_pos h1
theorem gNeg_i : gNeg (.int i) = some (.fz (.int (-i))) := rfl
theorem gPow_ii (h1 : 0 ≤ j) (h2 : j ≤ 1000000) (h3 : i.natAbs < 18446744073709551616) : gPow (.int i) (.int j) = some (.fz (.int (i ^ j.toNat))) := if_pos ⟨h1, h2, h3⟩
theorem gPow_18 : gPow (.int 10) (.int 18) = some (.fz (.int 1000000000000000000)) := by
  rw [gPow_ii (by decide) (by decide) (by decide)]; rfl
theorem gEq_ii : gEq (.int i) (.int j) = some (decide (i = j)) := by
  show some (i == j) = _
  rw [show (i == j) = decide (i = j) from rfl]
theorem gEq_ss : gEq (.str x) (.str y) = some (decide (x = y)) := by
  show some (x == y) = _
  by_cases h : x = y
  · subst h; simp
  · rw [decide_eq_false h]; simpa using h
theorem gEq_bb {a b : Bool} : gEq (.bool a) (.bool b) = some (decide (a = b)) := by
  show some (a == b) = _
  cases a <;> cases b <;> rfl
theorem gNe_of {b : Bool} (h : gEq d e = some b) : gNe d e = some (!b) := by unfold gNe; rw [h]; rfl
theorem gNe_ii : gNe (.int i) (.int j) = some (!decide (i = j)) := gNe_of gEq_ii
theorem gNe_ss : gNe (.str x) (.str y) = some (!decide (x = y)) := gNe_of gEq_ss
theorem gLt_ii : gLt (.int i) (.int j) = some (decide (i < j)) := rfl
theorem gLe_ii : gLe (.int i) (.int j) = some (decide (i ≤ j)) := rfl
theorem gGt_ii : gGt (.int i) (.int j) = some (decide (j < i)) := rfl
theorem gGe_ii : gGe (.int i) (.int j) = some (decide (j ≤ i)) := rfl
theorem atI_of (h0 : 0 ≤ i) (h : ds[i.toNat]? = some d) : atI ds i = some d := by
  have e := atI_nat (xs := ds) (j := i.toNat) h
  rw [Int.toNat_of_nonneg h0] at e; exact e
theorem gIx_l (h0 : 0 ≤ i) (h : ds[i.toNat]? = some d) : gIx (.list ds) (.int i) = some (.fz d) := by
  show (atI ds i).map _ = _
  rw [atI_of h0 h]; rfl
theorem gIx_t (h0 : 0 ≤ i) (h : ds[i.toNat]? = some d) : gIx (.tuple ds) (.int i) = some (.fz d) := by
  show (atI ds i).map _ = _
  rw [atI_of h0 h]; rfl
theorem gIx_l0 : gIx (.list (d :: ds)) (.int 0) = some (.fz d) := gIx_l (by decide) rfl
theorem gIx_t0 : gIx (.tuple (d :: ds)) (.int 0) = some (.fz d) := gIx_t (by decide) rfl
theorem gIx_l1 {d1 : D} : gIx (.list (d :: d1 :: ds)) (.int 1) = some (.fz d1) := gIx_l (by decide) rfl
theorem gIx_t1 {d1 : D} : gIx (.tuple (d :: d1 :: ds)) (.int 1) = some (.fz d1) := gIx_t (by decide) rfl
theorem gIx_l2 {d1 d2 : D} : gIx (.list (d :: d1 :: d2 :: ds)) (.int 2) = some (.fz d2) := gIx_l (by decide) rfl
theorem gIx_t2 {d1 d2 : D} : gIx (.tuple (d :: d1 :: d2 :: ds)) (.int 2) = some (.fz d2) := gIx_t (by decide) rfl
theorem gIx_t3 {d1 d2 d3 : D} : gIx (.tuple (d :: d1 :: d2 :: d3 :: ds)) (.int 3) = some (.fz d3) := gIx_t (by decide) rfl
theorem gIx_lm {α : Type} {f : α → D} {xs : List α} {k : Nat} (h : k < xs.length) : gIx (.list (xs.map f)) (.int (k : Int)) = some (.fz (f xs[k])) := gIx_l (by omega) (by rw [List.getElem?_map, Int.toNat_natCast, List.getElem?_eq_getElem h]; rfl)
theorem gIx_tm {α : Type} {f : α → D} {xs : List α} {k : Nat} (h : k < xs.length) : gIx (.tuple (xs.map f)) (.int (k : Int)) = some (.fz (f xs[k])) := gIx_t (by omega) (by rw [List.getElem?_map, Int.toNat_natCast, List.getElem?_eq_getElem h]; rfl)
theorem gIx_lz {xs : List D} : gIx (.list (xs ++ [d])) (.int (-1)) = some (.fz d) := by
  show (atI (xs ++ [d]) (-1)).map _ = _
  rw [atI_last]; rfl
theorem gLen_l : gLen [.list ds] = some (.fz (.int (ds.length : Nat))) := rfl
theorem gLen_t : gLen [.tuple ds] = some (.fz (.int (ds.length : Nat))) := rfl
theorem gLen_d {kvs : List (D × D)} : gLen [.dict kvs] = some (.fz (.int (kvs.length : Nat))) := rfl
theorem gAbs_i : gAbs [.int i] = some (.fz (.int (if i < 0 then -i else i))) := rfl
theorem gInt_i : gInt [.int i] = some (.fz (.int i)) := rfl
theorem gTuple_l : gTuple [.list ds] = some (.fz (.tuple ds)) := rfl
theorem gTuple_t : gTuple [.tuple ds] = some (.fz (.tuple ds)) := rfl
theorem gList_l : gList [.list ds] = some (.ow (.list ds)) := rfl
theorem gList_t : gList [.tuple ds] = some (.ow (.list ds)) := rfl
theorem gAppend_l (h : ds.length < sizeLine) : gAppend (.list ds) [d] = some (.list (ds ++ [d]), .none) := if_pos h
theorem gExtend_l (h : ds.length + es.length ≤ sizeLine) : gExtend (.list ds) [.list es] = some (.list (ds ++ es), .none) := if_pos h
theorem gMax_ii : gMax [.int i, .int j] = some (.fz (.int (max i j))) := by
  show some (Rs.fz (PyData.int (if j > i then j else i))) = _
  congr 3
  split <;> omega
theorem gMin_ii : gMin [.int i, .int j] = some (.fz (.int (min i j))) := by
  show some (Rs.fz (PyData.int (if j < i then j else i))) = _
  congr 3
  split <;> omega
theorem gMin_l {ns : List Int} (h : ns ≠ []) : gMin [.list (ns.map .int)] = some (.fz (.int (minL ns))) := by
  show (intsOf (ns.map .int)).bind _ = _
  rw [intsOf_map]; exact if_neg h
theorem gSum_l {ns : List Int} : gSum [.list (ns.map .int)] = some (.fz (.int ns.sum)) := by
  show (intsOf (ns.map .int)).map _ = _
  rw [intsOf_map]; rfl
theorem gIs_none : gIs d .none = some (isNone d) := by
  cases d <;> rfl
end
/-! ### rules with folded continuations -/
section
variable {ρ : List Sl} {N : List Sl → Prop} {T : Rs → List Sl → Prop} {B C : List Sl → Prop}
def mutO (o : Option Sl) (i : Nat) (g : D → List D → Option (D × D)) (ds : List D) (ρ : List Sl) (Q : Rs → List Sl → Prop) (_ : Tag Q := .mk) : Prop := match o with
  | some (.ow d) => wO (g d ds) fun p => Q (.fz p.2) (ρ.set i (.ow p.1))
  | _ => False
theorem mutK_ow' {i : Nat} {c : D → Bool} {fr : Bool} {g : D → List D → Option (D × D)} {f : M (List Rs)} {Q : Rs → List Sl → Prop} {d0 : D} : mutK (some (.ow d0)) i c fr g f ρ Q = (c d0 = true ∧ wM f ρ fun rs ρ1 => wM (if fr = true then frzA rs else lookA rs) ρ1 fun ds ρ2 => mutO ρ2[i]? i g ds ρ2 Q) := rfl
theorem mutO_ow {i : Nat} {g : D → List D → Option (D × D)} {ds : List D} {d : D} {Q : Rs → List Sl → Prop} : mutO (some (.ow d)) i g ds ρ Q = wO (g d ds) fun p => Q (.fz p.2) (ρ.set i (.ow p.1)) := rfl
def retK (ms : List Bool) (Q : Rs → List Sl → Prop) (r : Rs) (ρ : List Sl) (_ : Tag Q := .mk) : Prop := match r with
  | .fz d => Q (.fz d) (outP ms ρ)
  | .ow d => Q (.ow d) (outP ms ρ)
  | .nm i => match ρ[i]? with
    | some (.fz d) => Q (.fz d) (outP ms ρ)
    | some (.ow d) => if ms.length ≤ i then Q (.ow d) (outP ms ρ) else Q (.fz d) (outP ms (ρ.set i (.fz d)))
    | some (.lk d) => Q (.fz d) (outP ms (ρ.set i (.fz d)))
    | _ => False
def retO (o : Option Sl) (i : Nat) (ms : List Bool) (Q : Rs → List Sl → Prop) (ρ : List Sl) (_ : Tag Q := .mk) : Prop := match o with
    | some (.fz d) => Q (.fz d) (outP ms ρ)
    | some (.ow d) => if ms.length ≤ i then Q (.ow d) (outP ms ρ) else Q (.fz d) (outP ms (ρ.set i (.fz d)))
    | some (.lk d) => Q (.fz d) (outP ms (ρ.set i (.fz d)))
    | _ => False
variable {ms : List Bool} {Q : Rs → List Sl → Prop} {d : D} {i : Nat}
theorem retK_fz : retK ms Q (.fz d) ρ = Q (.fz d) (outP ms ρ) := rfl
theorem retK_ow : retK ms Q (.ow d) ρ = Q (.ow d) (outP ms ρ) := rfl
theorem retK_nm : retK ms Q (.nm i) ρ = retO ρ[i]? i ms Q ρ := rfl
theorem retO_fz : retO (some (.fz d)) i ms Q ρ = Q (.fz d) (outP ms ρ) := rfl
theorem retO_ow : retO (some (.ow d)) i ms Q ρ = if ms.length ≤ i then Q (.ow d) (outP ms ρ) else Q (.fz d) (outP ms (ρ.set i (.fz d))) := rfl
theorem retO_lk : retO (some (.lk d)) i ms Q ρ = Q (.fz d) (outP ms (ρ.set i (.fz d))) := rfl
theorem wM_run' {n : Nat} {body : DS} : wM (runDef ms n body) ρ Q = wS body (ρ ++ List.replicate (n - ρ.length) .em) (fun ρ' => Q (.fz .none) (outP ms ρ')) (retK ms Q) nope nope := by
  rw [wM_def, wS_def]; exact vM_run
/-- a spec by an equation -/
theorem run_eq {n : Nat} {body : DS} {r : Rs} {out : List Sl} (h : wS body (ρ ++ List.replicate (n - ρ.length) .em) (fun ρ' => .fz .none = r ∧ outP ms ρ' = out) (retK ms fun b ρ1 => b = r ∧ ρ1 = out) nope nope) : runDef ms n body ρ = .ok r out :=
  wM_eq (by rw [wM_run']; exact h)
theorem setR_fz (h : i < ρ.length) : setR i (.fz d) ρ = some (ρ.set i (.fz d)) := if_pos h
theorem setR_ow (h : i < ρ.length) : setR i (.ow d) ρ = some (ρ.set i (.ow d)) := if_pos h
def setK (o : Option Sl) (i j : Nat) (ρ : List Sl) : Option (List Sl) := match o with
  | some (.fz d) => if i < ρ.length then some (ρ.set i (.fz d)) else none
  | some (.ow d) => if i < ρ.length then some ((ρ.set j (.fz d)).set i (.fz d)) else none
  | some (.lk d) => if i < ρ.length then some ((ρ.set j (.fz d)).set i (.fz d)) else none
  | _ => none
theorem setR_nm {j : Nat} : setR i (.nm j) ρ = setK ρ[j]? i j ρ := by
  unfold setR setK frz
  simp only
  cases ρ[j]? with
  | none => simp
  | some s => cases s <;> simp
theorem setK_fz {j : Nat} (h : i < ρ.length) : setK (some (.fz d)) i j ρ = some (ρ.set i (.fz d)) := if_pos h
theorem setK_ow {j : Nat} (h : i < ρ.length) : setK (some (.ow d)) i j ρ = some ((ρ.set j (.fz d)).set i (.fz d)) := if_pos h
theorem setK_lk {j : Nat} (h : i < ρ.length) : setK (some (.lk d)) i j ρ = some ((ρ.set j (.fz d)).set i (.fz d)) := if_pos h
theorem gN_ok (h : i < ρ.length) : gN i d ρ = some (ρ.set i (.fz d)) := if_pos h
theorem wO_gsC {g : DG} {gs : DGs} {ds : List D} : wO (gsC g gs (d :: ds) ρ) N = wO (g d ρ) fun ρ1 => wO (gs ds ρ1) N := by
  rw [wO_def, wO_def]
  show vO (match g d ρ with | some ρ' => gs ds ρ' | none => none) N = _
  cases g d ρ with
  | none => rfl
  | some ρ1 => show _ = wO _ _; rw [wO_def]
theorem gT_ok {gs : DGs} {ds : List D} {n : Nat} (h : ds.length = n) : gT n gs (.tuple ds) ρ = gs ds ρ := if_pos h
theorem gsN_ok : gsN [] ρ = some ρ := rfl
theorem setQs_nil : setQs [] [] ρ = some ρ := rfl
theorem setQs_fz {is : List Nat} {rs : List Rs} (h : i < ρ.length) : setQs (i :: is) (.fz d :: rs) ρ = setQs is rs (ρ.set i (.fz d)) := by
  show (match setQ i (.fz d) ρ with | some ρ' => setQs is rs ρ' | none => none) = _
  rw [show setQ i (.fz d) ρ = some (ρ.set i (.fz d)) from if_pos h]
theorem setQs_ow {is : List Nat} {rs : List Rs} (h : i < ρ.length) : setQs (i :: is) (.ow d :: rs) ρ = setQs is rs (ρ.set i (.ow d)) := by
  show (match setQ i (.ow d) ρ with | some ρ' => setQs is rs ρ' | none => none) = _
  rw [show setQ i (.ow d) ρ = some (ρ.set i (.ow d)) from if_pos h]
theorem outP_t {bs : List Bool} {s : Sl} {ss : List Sl} : outP (true :: bs) (s :: ss) = s :: outP bs ss := rfl
theorem outP_f {bs : List Bool} {s : Sl} {ss : List Sl} : outP (false :: bs) (s :: ss) = .em :: outP bs ss := rfl
theorem outP_n {ss : List Sl} : outP [] ss = [] := by cases ss <;> rfl
def wkO (o : Option Sl) (i : Nat) (ρ : List Sl) (Q : Wk → List Sl → Prop) (_ : Tag Q := .mk) : Prop := match o with
  | some (.fz d) => wO (seqItems d) fun ds => Q (ds, none) ρ
  | some (.ow d) => wO (seqItems d) fun ds => Q (ds, some i) (ρ.set i (.lk d))
  | some (.lk d) => wO (seqItems d) fun ds => Q (ds, none) ρ
  | _ => False
theorem vO_map {α β : Type} {o : Option α} {f : α → β} {Q : β → Prop} : vO (o.map f) Q = vO o fun a => Q (f a) := by cases o <;> rfl
theorem wk_nm {i : Nat} {Q : Wk → List Sl → Prop} : wM (dWk (pr (.nm i))) ρ Q = wkO ρ[i]? i ρ Q := by
  have hb : ∀ (k : Rs → M Wk), bd (pr (.nm i)) k ρ = k (.nm i) ρ := fun _ => rfl
  rw [wM_def]
  unfold vM dWk wkO
  simp only [wO_def]
  rw [hb]
  dsimp only
  cases ρ[i]? with
  | none => rfl
  | some s =>
    cases s with
    | em => rfl
    | fz d => exact Eq.trans (vM_opt (o := (seqItems d).map fun ds => (ds, (none : Option Nat)))) vO_map
    | ow d => exact Eq.trans (vM_opt (o := (seqItems d).map fun ds => (ds, some i))) vO_map
    | lk d => exact Eq.trans (vM_opt (o := (seqItems d).map fun ds => (ds, (none : Option Nat)))) vO_map
theorem wkO_fz {i : Nat} {d : D} {Q : Wk → List Sl → Prop} : wkO (some (.fz d)) i ρ Q = wO (seqItems d) fun ds => Q (ds, none) ρ := rfl
theorem wkO_ow {i : Nat} {d : D} {Q : Wk → List Sl → Prop} : wkO (some (.ow d)) i ρ Q = wO (seqItems d) fun ds => Q (ds, some i) (ρ.set i (.lk d)) := rfl
theorem wkO_lk {i : Nat} {d : D} {Q : Wk → List Sl → Prop} : wkO (some (.lk d)) i ρ Q = wO (seqItems d) fun ds => Q (ds, none) ρ := rfl
theorem wk_fz {d : D} {Q : Wk → List Sl → Prop} : wM (dWk (pr (.fz d))) ρ Q = wO (seqItems d) fun ds => Q (ds, none) ρ := by
  rw [wM_def, wO_def]; exact Eq.trans (vM_opt (o := (seqItems d).map fun ds => (ds, (none : Option Nat)))) vO_map
theorem wk_ow {d : D} {Q : Wk → List Sl → Prop} : wM (dWk (pr (.ow d))) ρ Q = wO (seqItems d) fun ds => Q (ds, none) ρ := by
  rw [wM_def, wO_def]; exact Eq.trans (vM_opt (o := (seqItems d).map fun ds => (ds, (none : Option Nat)))) vO_map
theorem wM_wkE {f : M Rs} {Q : Wk → List Sl → Prop} : wM (dWk f) ρ Q = wM f ρ fun r ρ1 => wM (dWk (pr r)) ρ1 Q := by
  simp only [wM_def]; exact vM_wk
theorem wM_wkV {i : Nat} {Q : Wk → List Sl → Prop} : wM (dWk (dVar i)) ρ Q = wM (dVar i) ρ fun r ρ1 => wM (dWk (pr r)) ρ1 Q := wM_wkE
theorem wM_wkT {f : M (List Rs)} {Q : Wk → List Sl → Prop} : wM (dWk (dTup f)) ρ Q = wM (dTup f) ρ fun r ρ1 => wM (dWk (pr r)) ρ1 Q := wM_wkE
theorem wM_wkL {f : M (List Rs)} {Q : Wk → List Sl → Prop} : wM (dWk (dLst f)) ρ Q = wM (dLst f) ρ fun r ρ1 => wM (dWk (pr r)) ρ1 Q := wM_wkE
theorem wM_wk2 {g : G2} {fa fb : M Rs} {Q : Wk → List Sl → Prop} : wM (dWk (dOp2 g fa fb)) ρ Q = wM (dOp2 g fa fb) ρ fun r ρ1 => wM (dWk (pr r)) ρ1 Q := wM_wkE
theorem wM_wkB {g : List D → Option Rs} {f : M (List Rs)} {Q : Wk → List Sl → Prop} : wM (dWk (dB g f)) ρ Q = wM (dB g f) ρ fun r ρ1 => wM (dWk (pr r)) ρ1 Q := wM_wkE
theorem wM_wkC {ls : List Bool} {s : M Rs} {f : M (List Rs)} {Q : Wk → List Sl → Prop} : wM (dWk (dCall ls s f)) ρ Q = wM (dCall ls s f) ρ fun r ρ1 => wM (dWk (pr r)) ρ1 Q := wM_wkE
theorem items_l {ds : List D} : seqItems (.list ds) = some ds := rfl
theorem items_t {ds : List D} : seqItems (.tuple ds) = some ds := rfl
def rng1 : List D → Option Wk
  | [.int j] => if -(2 ^ 62) ≤ j ∧ j < 2 ^ 62 then some ((List.range j.toNat).map fun k => .int (k : Nat), none) else none
  | _ => none
def rng2 : List D → Option Wk
  | [.int i, .int j] => if -(2 ^ 62) ≤ i ∧ i < 2 ^ 62 ∧ -(2 ^ 62) ≤ j ∧ j < 2 ^ 62 then some ((List.range (j - i).toNat).map fun k => .int (i + (k : Nat)), none) else none
  | _ => none
theorem wM_rng1 {f : M (List Rs)} {Q : Wk → List Sl → Prop} : wM (dRng1 f) ρ Q = wM f ρ fun rs ρ1 => wM (lookA rs) ρ1 fun ds ρ2 => wO (rng1 ds) fun p => Q p ρ2 := by
  simp only [wM_def, wO_def]; unfold dRng1; simp only [vM_bd, vM_opt]; rfl
theorem wM_rng2 {f : M (List Rs)} {Q : Wk → List Sl → Prop} : wM (dRng2 f) ρ Q = wM f ρ fun rs ρ1 => wM (lookA rs) ρ1 fun ds ρ2 => wO (rng2 ds) fun p => Q p ρ2 := by
  simp only [wM_def, wO_def]; unfold dRng2; simp only [vM_bd, vM_opt]; rfl
theorem rng1_ok {j : Int} (h1 : -4611686018427387904 ≤ j) (h2 : j < 4611686018427387904) : rng1 [.int j] = some ((List.range j.toNat).map fun k => .int (k : Nat), none) := if_pos ⟨h1, h2⟩
theorem rng2_ok {i j : Int} (h0 : -4611686018427387904 ≤ i) (h3 : i < 4611686018427387904) (h1 : -4611686018427387904 ≤ j) (h2 : j < 4611686018427387904) : rng2 [.int i, .int j] = some ((List.range (j - i).toNat).map fun k => .int (i + (k : Nat)), none) := if_pos ⟨h0, h3, h1, h2⟩
def unlK (o : Option Sl) (i : Nat) (ρ : List Sl) : List Sl := match o with
  | some (.lk d) => ρ.set i (.ow d)
  | _ => ρ
theorem unl_some {i : Nat} : unl (some i) ρ = unlK ρ[i]? i ρ := by
  unfold unl unlK; rfl
theorem unlK_lk {i : Nat} {d : D} : unlK (some (.lk d)) i ρ = ρ.set i (.ow d) := rfl
theorem unl_none : unl none ρ = ρ := rfl
/-! ### tests and choices -/
theorem wM_not {t : M Bool} {Q : Bool → List Sl → Prop} : wM (dNot t) ρ Q = wM t ρ fun b ρ1 => Q (!b) ρ1 := by
  simp only [wM_def, wO_def]; unfold dNot; simp only [vM_bd, vM_opt, vM_ite, vM_pr]
theorem wM_tru {f : M Rs} {Q : Bool → List Sl → Prop} : wM (dTru f) ρ Q = wM f ρ fun r ρ1 => wM (look r) ρ1 fun d ρ2 => wO (tru d) fun b => Q b ρ2 := by
  simp only [wM_def, wO_def]; unfold dTru; simp only [vM_bd, vM_opt, vM_ite, vM_pr]
theorem wM_and {a b : M Bool} {Q : Bool → List Sl → Prop} : wM (dAnd a b) ρ Q = wM a ρ fun k ρ1 => if k = true then wM b ρ1 Q else Q false ρ1 := by
  simp only [wM_def, wO_def]; unfold dAnd; simp only [vM_bd, vM_opt, vM_ite, vM_pr]
theorem wM_or {a b : M Bool} {Q : Bool → List Sl → Prop} : wM (dOr a b) ρ Q = wM a ρ fun k ρ1 => if k = true then Q true ρ1 else wM b ρ1 Q := by
  simp only [wM_def, wO_def]; unfold dOr; simp only [vM_bd, vM_opt, vM_ite, vM_pr]
theorem wM_andV {a b : M Rs} {Q : Rs → List Sl → Prop} : wM (dAndV a b) ρ Q = wM a ρ fun r ρ1 => wM (look r) ρ1 fun d ρ2 => wO (tru d) fun k => if k = true then wM b ρ2 Q else wM (frz r) ρ2 fun d ρ3 => Q (.fz d) ρ3 := by
  simp only [wM_def, wO_def]; unfold dAndV; simp only [vM_bd, vM_opt, vM_ite, vM_pr]
theorem wM_orV {a b : M Rs} {Q : Rs → List Sl → Prop} : wM (dOrV a b) ρ Q = wM a ρ fun r ρ1 => wM (look r) ρ1 fun d ρ2 => wO (tru d) fun k => if k = true then wM (frz r) ρ2 (fun d ρ3 => Q (.fz d) ρ3) else wM b ρ2 Q := by
  simp only [wM_def, wO_def]; unfold dOrV; simp only [vM_bd, vM_opt, vM_ite, vM_pr]
theorem wM_notV {a : M Rs} {Q : Rs → List Sl → Prop} : wM (dNotV a) ρ Q = wM a ρ fun r ρ1 => wM (look r) ρ1 fun d ρ2 => wO (tru d) fun k => Q (.fz (.bool (!k))) ρ2 := by
  simp only [wM_def, wO_def]; unfold dNotV; simp only [vM_bd, vM_opt, vM_ite, vM_pr]
theorem wM_ifE {c : M Bool} {a b : M Rs} {Q : Rs → List Sl → Prop} : wM (dIfE c a b) ρ Q = wM c ρ fun k ρ1 => if k = true then wM a ρ1 Q else wM b ρ1 Q := by
  simp only [wM_def, wO_def]; unfold dIfE; simp only [vM_bd, vM_opt, vM_ite, vM_pr]
theorem wM_chain {g g' : D → D → Option Bool} {fa fb fc : M Rs} {Q : Rs → List Sl → Prop} : wM (dChain g g' fa fb fc) ρ Q = wM fa ρ fun ra ρ1 => wM fb ρ1 fun rb ρ2 => wM (look ra) ρ2 fun da ρ3 => wM (look rb) ρ3 fun db ρ4 => wO (g da db) fun k =>
    if k = true then wM fc ρ4 fun rc ρ5 => wM (look rb) ρ5 fun db ρ6 => wM (look rc) ρ6 fun dc ρ7 => wO (g' db dc) fun k => Q (.fz (.bool k)) ρ7 else Q (.fz (.bool false)) ρ4 := by
  simp only [wM_def, wO_def]; unfold dChain; simp only [vM_bd, vM_opt, vM_ite, vM_pr]
theorem wM_chainT {g g' : D → D → Option Bool} {fa fb fc : M Rs} {Q : Bool → List Sl → Prop} : wM (dChainT g g' fa fb fc) ρ Q = wM fa ρ fun ra ρ1 => wM fb ρ1 fun rb ρ2 => wM (look ra) ρ2 fun da ρ3 => wM (look rb) ρ3 fun db ρ4 => wO (g da db) fun k =>
    if k = true then wM fc ρ4 fun rc ρ5 => wM (look rb) ρ5 fun db ρ6 => wM (look rc) ρ6 fun dc ρ7 => wO (g' db dc) fun k => Q k ρ7 else Q false ρ4 := by
  simp only [wM_def, wO_def]; unfold dChainT; simp only [vM_bd, vM_opt, vM_ite, vM_pr]
theorem wM_dispN {ps : List (M Rs × M Rs)} {Q : Rs → List Sl → Prop} : wM (dDisp ps) ρ Q = wM (dPairs ps) ρ fun krs ρ1 => wM (frzA (krs.map (·.2))) ρ1 fun ds ρ2 => krs.length ≤ 15 ∧ Q (.ow (.dict ((List.zip (krs.map (·.1)) ds).foldl (fun acc kv => dput kv.1 kv.2 acc) []))) ρ2 := by
  simp only [wM_def]; unfold dDisp; simp only [vM_bd]
  congr 1; funext krs ρ1; congr 1; funext ds ρ2
  by_cases h : krs.length ≤ 15
  · rw [if_pos h]; simp only [vM_pr, h, true_and]
  · rw [if_neg h]; exact propext ⟨fun z => (vM_iff.mp z).elim fun a ⟨_, e, _⟩ => (nomatch e), fun z => (h z.1).elim⟩
theorem wM_pairs0 {Q : List (Key × Rs) → List Sl → Prop} : wM (dPairs []) ρ Q = Q [] ρ := wM_pr
theorem wM_pairs {p : M Rs × M Rs} {ps : List (M Rs × M Rs)} {Q : List (Key × Rs) → List Sl → Prop} : wM (dPairs (p :: ps)) ρ Q = wM (dKey p.1) ρ fun k ρ1 => wM p.2 ρ1 fun r ρ2 => wM (dPairs ps) ρ2 fun rs ρ3 => Q ((k, r) :: rs) ρ3 := by
  simp only [wM_def]
  conv => lhs; unfold dPairs
  simp only [vM_bd, vM_pr]
theorem wM_new {Q : Rs → List Sl → Prop} : wM dNew ρ Q = Q (.ow (.dict [])) ρ := wM_pr
theorem tru_b {b : Bool} : tru (.bool b) = some b := rfl
theorem tru_n : tru .none = some false := rfl
theorem tru_l {ds : List D} : tru (.list ds) = some (!ds.isEmpty) := rfl
theorem tru_t {ds : List D} : tru (.tuple ds) = some (!ds.isEmpty) := rfl
theorem key_i {i : Int} : keyOf (.int i) = some (.inl i) := rfl
theorem key_s {x : Str} : keyOf (.str x) = some (.inr x) := rfl
theorem gIAdd_ii {i j : Int} : gIAdd (.int i) (.int j) = some (.fz (.int (i + j))) := rfl
theorem gISub_ii {i j : Int} : gISub (.int i) (.int j) = some (.fz (.int (i - j))) := rfl
def callR (r : R Rs) (rs : List Rs) (ρ : List Sl) (Q : Rs → List Sl → Prop) (_ : Tag Q := .mk) : Prop := match r with
  | .ok (.fz d) ρp => Q (.fz d) (wb rs ρp ρ)
  | .ok (.ow d) ρp => Q (.ow d) (wb rs ρp ρ)
  | _ => False
theorem callK_R {sem : M Rs} {rs : List Rs} {Q : Rs → List Sl → Prop} : callK sem rs ρ Q = callR (sem (rs.map (slotOf ρ))) rs ρ Q := by
  unfold callK callR vR
  cases sem (rs.map (slotOf ρ)) with
  | bad => rfl
  | ok r ρp => cases r <;> rfl
theorem callR_fz {rs : List Rs} {d : D} {ρp : List Sl} {Q : Rs → List Sl → Prop} : callR (.ok (.fz d) ρp) rs ρ Q = Q (.fz d) (wb rs ρp ρ) := rfl
theorem callR_ow {rs : List Rs} {d : D} {ρp : List Sl} {Q : Rs → List Sl → Prop} : callR (.ok (.ow d) ρp) rs ρ Q = Q (.ow d) (wb rs ρp ρ) := rfl
theorem rest_nil {ρ' : List Sl} : restore [] ρ ρ' = ρ' := rfl
def restK (o : Option Sl) (i : Nat) (ρ : List Sl) : List Sl := match o with
  | some s => ρ.set i s
  | none => ρ
theorem rest_cons {i : Nat} {is : List Nat} {ρ' : List Sl} : restore (i :: is) ρ ρ' = restK ρ[i]? i (restore is ρ ρ') := by
  conv => lhs; unfold restore
  cases ρ[i]? <;> rfl
theorem restK_some {i : Nat} {s : Sl} : restK (some s) i ρ = ρ.set i s := rfl
theorem wipe_nil : wipeR [] ρ = ρ := rfl
theorem wipe_cons {i : Nat} {is : List Nat} : wipeR (i :: is) ρ = (wipeR is ρ).set i .em := rfl
/-! ### loops, what is walked told apart -/
theorem wS_forI {w : M Wk} {g : DG} {body : DS} {ds : List D} {l : Option Nat} {ρ1 : List Sl} (hw : wM w ρ fun p ρ2 => p = (ds, l) ∧ ρ2 = ρ1) (I : Nat → List Sl → Prop) (h0 : I 0 ρ1)
    (st : ∀ k d ρ, ds[k]? = some d → I k ρ → wO (g d ρ) fun ρ2 => wS body ρ2 (I (k + 1)) (fun r ρ => T r (unl l ρ)) (fun ρ => N (unl l ρ)) (I (k + 1))) (fin : ∀ ρ, I ds.length ρ → N (unl l ρ)) : wS (dFor w g body) ρ N T B C :=
  wS_for (wM_mono hw fun p ρ2 ⟨e1, e2⟩ => by subst e1; subst e2; exact ⟨I, h0, st, fin⟩)
/-- a comprehension that changes nothing: its value -/
theorem wM_lcM {α : Type} {own : List Nat} {w : M Wk} {g : DG} {tt : M Bool} {te : M Rs} {Q : Rs → List Sl → Prop} {l : Option Nat} {ρ1 : List Sl} {enc : α → D} {xs : List α} (hw : wM w ρ fun p ρ2 => p = (xs.map enc, l) ∧ ρ2 = ρ1) (p : α → Bool) (f : α → D) (hl : xs.length ≤ sizeLine)
    (st : ∀ x ∈ xs, wO (g (enc x) (wipeR own ρ1)) fun ρ2 => wM tt ρ2 fun b ρ3 => b = p x ∧ if b = true then wM te ρ3 fun r ρ4 => wM (frz r) ρ4 fun y ρ5 => y = f x ∧ wipeR own ρ5 = wipeR own ρ1 else wipeR own ρ3 = wipeR own ρ1)
    (fin : Q (.ow (.list ((xs.filter p).map f))) (unl l (restore own ρ1 (wipeR own ρ1)))) : wM (dLc own w g tt te) ρ Q :=
  wM_lcMap enc xs p f (wM_mono hw fun q ρ2 ⟨e1, e2⟩ => by subst e1; subst e2; exact ⟨rfl, hl, st, fin⟩)
theorem filter_yes {α : Type} (xs : List α) : xs.filter (fun _ => true) = xs := by simp
theorem at_map {α : Type} {enc : α → D} {xs : List α} {k : Nat} {d : D} (h : (xs.map enc)[k]? = some d) : ∃ hk : k < xs.length, d = enc xs[k] := by
  rw [List.getElem?_map] at h
  rcases Nat.lt_or_ge k xs.length with z | z
  · rw [List.getElem?_eq_getElem z] at h; cases h; exact ⟨z, rfl⟩
  · rw [List.getElem?_eq_none z] at h; cases h
theorem at_rng {n k : Nat} {d : D} {f : Nat → D} (h : ((List.range n).map f)[k]? = some d) : k < n ∧ d = f k := by
  obtain ⟨hk, e⟩ := at_map h
  rw [List.getElem_range] at e
  exact ⟨by simpa using hk, e⟩
end
end DL
/-! what the laws draw: the same in every law -/
namespace DL
open PySem L2
def drawsB : DS :=
 (dSeq (dSet 2 (dLst dNil))
 (dSeq (dSet 3 (dC (.int 7)))
 (dSeq (dFor (dRng1 (dCons (dB gLen (dCons (dVar 0) dNil)) dNil)) (gN 4)
 ((dSeq (dSet 5 (dB gAbs (dCons (dB gInt (dCons (dOp2 gIx (dVar 0) (dVar 4)) dNil)) dNil)))
 (dSeq (dSet 3 (dOp2 gMod (dB gInt (dCons (dOp2 gAdd (dOp2 gAdd (dOp2 gMul (dVar 3) (dC (.int 48271))) (dOp2 gMod (dVar 5) (dC (.int 1000003)))) (dVar 4)) dNil)) (dC (.int 65537))))
 (dSeq (dSet 6 (dC (.int 0)))
 (dSeq (dIf (dOp2T gGe (dVar 5) (dOp2 gPow (dC (.int 10)) (dC (.int 18))))
 ((dSet 6 (dVar 5)))
 ((dSeq (dDrop (dMut 2 isLst true gAppend (dCons (dOp2 gMod (dB gInt (dCons (dVar 5) dNil)) (dC (.int 997))) dNil)))
 (dDrop (dMut 2 isLst true gAppend (dCons (dOp2 gMod (dOp2 gMod (dB gInt (dCons (dOp2 gAdd (dOp2 gMul (dVar 3) (dC (.int 69621))) (dC (.int 5))) dNil)) (dC (.int 65521))) (dC (.int 997))) dNil))))))
 (dFor (dRng1 (dCons (dC (.int 60)) dNil)) (gN 7)
 ((dIf (dOp2T gGt (dVar 6) (dC (.int 0)))
 ((dSeq (dDrop (dMut 2 isLst true gAppend (dCons (dOp2 gMod (dB gInt (dCons (dVar 6) dNil)) (dC (.int 997))) dNil)))
 (dSet 6 (dOp2 gDiv (dVar 6) (dC (.int 997))))))
 (dPass))))))))))
 (dSeq (dFor (dRng1 (dCons (dVar 1) dNil)) (gN 4)
 ((dSeq (dSet 3 (dOp2 gMod (dB gInt (dCons (dOp2 gAdd (dOp2 gAdd (dOp2 gMul (dVar 3) (dC (.int 16807))) (dVar 4)) (dC (.int 1))) dNil)) (dC (.int 65537))))
 (dDrop (dMut 2 isLst true gAppend (dCons (dOp2 gMod (dB gInt (dCons (dVar 3) dNil)) (dC (.int 997))) dNil))))))
 (dRet (dSl (dVar 2) dNoP (dPart (dVar 1))))))))
def nextB : DS :=
 (dSeq (dAugS gIAdd 0 (dC (.str "at")) (dC (.int 1)))
 (dSeq (dIf (dOp2T gGt (dOp2 gIx (dVar 0) (dC (.str "at"))) (dB gLen (dCons (dOp2 gIx (dVar 0) (dC (.str "draws"))) dNil)))
 ((dRet (dC (.int 0))))
 (dPass))
 (dRet (dOp2 gMod (dB gInt (dCons (dOp2 gIx (dOp2 gIx (dVar 0) (dC (.str "draws"))) (dOp2 gSub (dOp2 gIx (dVar 0) (dC (.str "at"))) (dC (.int 1)))) dNil)) (dVar 1)))))
def drawsF : M Rs := runDef [true, true] 8 drawsB
def nextF : M Rs := runDef [true, true] 2 nextB
/-- the drawer: what it holds -/
def Wd (ds : List Int) (at_ : Int) : D := .dict [(.str "draws", .list (ds.map .int)), (.str "at", .int at_)]
def W (ds : List Int) (at_ : Int) : Sl := .ow (Wd ds at_)
theorem ix_draws {ds : List Int} {a : Int} : gIx (Wd ds a) (.str "draws") = some (.fz (.list (ds.map .int))) := rfl
theorem ix_at {ds : List Int} {a : Int} : gIx (Wd ds a) (.str "at") = some (.fz (.int a)) := rfl
theorem get_at {ds : List Int} {a : Int} : gGet (Wd ds a) (kD (.inr "at")) = some (.int a) := rfl
theorem put_at {ds : List Int} {a b : Int} : gPut (Wd ds a) (kD (.inr "at")) (.int b) = some (Wd ds b) := rfl
/-- a draw below m -/
def nx (ds : List Int) (i : Nat) (m : Int) : Int := if h : i < ds.length then ds[i] % m else 0
theorem nx_nonneg {ds : List Int} {i : Nat} {m : Int} (h : 0 < m) : 0 ≤ nx ds i m := by
  unfold nx; split
  · exact Int.emod_nonneg _ (by omega)
  · exact Int.le_refl _
theorem nx_lt {ds : List Int} {i : Nat} {m : Int} (h : 0 < m) : nx ds i m < m := by
  unfold nx; split
  · exact Int.emod_lt_of_pos _ h
  · exact h
theorem next_ok (ds : List Int) (i : Nat) (m : Int) (hm : 0 < m) : nextF [W ds i, .fz (.int m)] = .ok (.fz (.int (nx ds i m))) [W ds (i + 1 : Nat), .fz (.int m)] := by
  apply run_eq
  unfold nextB W
  simp (disch := first | omega | (simp only [List.length_map, List.length_append, List.length_cons, List.length_nil, List.length_set, List.length_range, sizeLine_eq]; done) | (simp only [List.length_map, List.length_append, List.length_cons, List.length_nil, List.length_set, List.length_range, sizeLine_eq]; omega)) only [↓wM_bd, ↓wM_pr, ↓wM_opt, ↓wM_C, ↓wM_var, ↓wM_look_fz, ↓wM_look_ow, ↓wM_look_nm, ↓wM_frz_fz, ↓wM_frz_ow, ↓wM_frz_nm, ↓wM_op2, ↓wM_op2T, ↓wO_gB, ↓wM_op1, ↓wM_nil, ↓wM_cons, ↓wM_frzA0, ↓wM_frzA, ↓wM_lookA0, ↓wM_lookA, ↓wM_tup, ↓wM_lst, ↓wM_B, ↓wM_isi, ↓wM_me, ↓wM_sl, ↓wM_noP, ↓wM_part, ↓wM_key, ↓wM_call, ↓wM_argSA0, ↓wM_argSA, ↓wM_argS_fz, ↓wM_argS_ow, ↓wM_argS_nm, ↓wM_mut, ↓wM_yes, ↓wM_rng1, ↓wM_rng2, ↓wM_wkV, ↓wM_wkT, ↓wM_wkL, ↓wM_wk2, ↓wM_wkB, ↓wM_wkC, ↓wM_not, ↓wM_tru, ↓wM_and, ↓wM_or, ↓wM_andV, ↓wM_orV, ↓wM_notV, ↓wM_ifE, ↓wM_chain, ↓wM_chainT, ↓wM_dispN, ↓wM_pairs0, ↓wM_pairs, ↓wM_new, ↓wO_gsC, ↓wS_seq, ↓wS_pass, ↓wS_brk, ↓wS_cnt, ↓wS_ret, ↓wS_drop, ↓wS_if, ↓wS_set, ↓wS_asg, ↓wS_par, ↓wS_put, ↓wS_augS, ↓wS_aug, ↓wM_run', wO_some, varK_fz, varK_ow, varK_lk, lookK_fz, lookK_ow, lookK_lk, frzK_fz, frzK_ow, frzK_lk, argK_fz, argK_owt, argK_owf, argK_lkt, argK_lkf, mutK_ow', mutO_ow, putK'_ow, getK_ow, fzO_fz, augK_fz, intD_int, retK_fz, retK_ow, retK_nm, retO_fz, retO_ow, retO_lk, setR_fz, setR_ow, setR_nm, setK_fz, setK_ow, setK_lk, tru_b, tru_n, tru_l, tru_t, key_i, key_s, gIAdd_ii, gISub_ii, gPow_18, gN_ok, gsN_ok, gT_ok, setQs_nil, setQs_fz, setQs_ow, outP_t, outP_f, outP_n, wkO_fz, wkO_ow, wkO_lk, wk_fz, wk_ow, wk_nm, items_l, items_t, unl_none, unl_some, unlK_lk, callK_R, callR_fz, callR_ow, rest_nil, rest_cons, restK_some, wipe_nil, wipe_cons, gAdd_ii, gSub_ii, gMul_l, gMul_r, gDiv_ii, gMod_ii, gNeg_i, gEq_ii, gEq_ss, gEq_bb, gNe_ii, gNe_ss, gLt_ii, gLe_ii, gGt_ii, gGe_ii, gIx_l0, gIx_t0, gIx_l1, gIx_t1, gIx_l2, gIx_t2, gIx_t3, gLen_l, gLen_t, gLen_d, gAbs_i, gAppend_l, gExtend_l, gInt_i, gTuple_l, gTuple_t, gList_l, gList_t, gMax_ii, gMin_ii, gSum_l, gIs_none, isLst, isT, isOw, List.getElem?_cons_zero, List.getElem?_cons_succ, List.length_cons, List.length_nil, List.cons_append, List.nil_append, List.replicate, List.set_cons_zero, List.set_cons_succ, true_and, and_true, if_true, List.map_cons, List.map_nil, Nat.reduceAdd, Nat.reduceSub, Nat.reduceLT, Nat.reduceLeDiff, List.length_set, List.length_map, List.length_append, List.length_range, reduceIte, reduceDIte, Bool.false_eq_true, slotOf, wb, Option.getD_some, nmOk, heldR, List.all_cons, List.all_nil, List.any_cons, List.any_nil, isNm, Bool.and_true, Bool.true_and, Bool.false_and, Bool.and_false, Bool.not_false, Bool.not_true, Bool.or_false, ix_draws, ix_at, get_at, put_at, decide_eq_true_eq]
  unfold nx
  by_cases h : i < ds.length
  · have e : ((i : Int) + 1 - 1) = (i : Nat) := by omega
    have e2 : ((i + 1 : Nat) : Int) = (i : Int) + 1 := by omega
    simp (disch := first | omega | (simp only [List.length_map, List.length_append, List.length_cons, List.length_nil, List.length_set, List.length_range, sizeLine_eq]; done) | (simp only [List.length_map, List.length_append, List.length_cons, List.length_nil, List.length_set, List.length_range, sizeLine_eq]; omega)) only [↓wM_bd, ↓wM_pr, ↓wM_opt, ↓wM_C, ↓wM_var, ↓wM_look_fz, ↓wM_look_ow, ↓wM_look_nm, ↓wM_frz_fz, ↓wM_frz_ow, ↓wM_frz_nm, ↓wM_op2, ↓wM_op2T, ↓wO_gB, ↓wM_op1, ↓wM_nil, ↓wM_cons, ↓wM_frzA0, ↓wM_frzA, ↓wM_lookA0, ↓wM_lookA, ↓wM_tup, ↓wM_lst, ↓wM_B, ↓wM_isi, ↓wM_me, ↓wM_sl, ↓wM_noP, ↓wM_part, ↓wM_key, ↓wM_call, ↓wM_argSA0, ↓wM_argSA, ↓wM_argS_fz, ↓wM_argS_ow, ↓wM_argS_nm, ↓wM_mut, ↓wM_yes, ↓wM_rng1, ↓wM_rng2, ↓wM_wkV, ↓wM_wkT, ↓wM_wkL, ↓wM_wk2, ↓wM_wkB, ↓wM_wkC, ↓wM_not, ↓wM_tru, ↓wM_and, ↓wM_or, ↓wM_andV, ↓wM_orV, ↓wM_notV, ↓wM_ifE, ↓wM_chain, ↓wM_chainT, ↓wM_dispN, ↓wM_pairs0, ↓wM_pairs, ↓wM_new, ↓wO_gsC, ↓wS_seq, ↓wS_pass, ↓wS_brk, ↓wS_cnt, ↓wS_ret, ↓wS_drop, ↓wS_if, ↓wS_set, ↓wS_asg, ↓wS_par, ↓wS_put, ↓wS_augS, ↓wS_aug, ↓wM_run', wO_some, varK_fz, varK_ow, varK_lk, lookK_fz, lookK_ow, lookK_lk, frzK_fz, frzK_ow, frzK_lk, argK_fz, argK_owt, argK_owf, argK_lkt, argK_lkf, mutK_ow', mutO_ow, putK'_ow, getK_ow, fzO_fz, augK_fz, intD_int, retK_fz, retK_ow, retK_nm, retO_fz, retO_ow, retO_lk, setR_fz, setR_ow, setR_nm, setK_fz, setK_ow, setK_lk, tru_b, tru_n, tru_l, tru_t, key_i, key_s, gIAdd_ii, gISub_ii, gPow_18, gN_ok, gsN_ok, gT_ok, setQs_nil, setQs_fz, setQs_ow, outP_t, outP_f, outP_n, wkO_fz, wkO_ow, wkO_lk, wk_fz, wk_ow, wk_nm, items_l, items_t, unl_none, unl_some, unlK_lk, callK_R, callR_fz, callR_ow, rest_nil, rest_cons, restK_some, wipe_nil, wipe_cons, gAdd_ii, gSub_ii, gMul_l, gMul_r, gDiv_ii, gMod_ii, gNeg_i, gEq_ii, gEq_ss, gEq_bb, gNe_ii, gNe_ss, gLt_ii, gLe_ii, gGt_ii, gGe_ii, gIx_l0, gIx_t0, gIx_l1, gIx_t1, gIx_l2, gIx_t2, gIx_t3, gLen_l, gLen_t, gLen_d, gAbs_i, gAppend_l, gExtend_l, gInt_i, gTuple_l, gTuple_t, gList_l, gList_t, gMax_ii, gMin_ii, gSum_l, gIs_none, isLst, isT, isOw, List.getElem?_cons_zero, List.getElem?_cons_succ, List.length_cons, List.length_nil, List.cons_append, List.nil_append, List.replicate, List.set_cons_zero, List.set_cons_succ, true_and, and_true, if_true, List.map_cons, List.map_nil, Nat.reduceAdd, Nat.reduceSub, Nat.reduceLT, Nat.reduceLeDiff, List.length_set, List.length_map, List.length_append, List.length_range, reduceIte, reduceDIte, Bool.false_eq_true, slotOf, wb, Option.getD_some, nmOk, heldR, List.all_cons, List.all_nil, List.any_cons, List.any_nil, isNm, Bool.and_true, Bool.true_and, Bool.false_and, Bool.and_false, Bool.not_false, Bool.not_true, Bool.or_false, if_neg (show ¬ ((ds.length : Int) < i + 1) by omega), e, e2, gIx_lm, h]
  · have e2 : ((i + 1 : Nat) : Int) = (i : Int) + 1 := by omega
    simp (disch := first | omega | (simp only [List.length_map, List.length_append, List.length_cons, List.length_nil, List.length_set, List.length_range, sizeLine_eq]; done) | (simp only [List.length_map, List.length_append, List.length_cons, List.length_nil, List.length_set, List.length_range, sizeLine_eq]; omega)) only [↓wM_bd, ↓wM_pr, ↓wM_opt, ↓wM_C, ↓wM_var, ↓wM_look_fz, ↓wM_look_ow, ↓wM_look_nm, ↓wM_frz_fz, ↓wM_frz_ow, ↓wM_frz_nm, ↓wM_op2, ↓wM_op2T, ↓wO_gB, ↓wM_op1, ↓wM_nil, ↓wM_cons, ↓wM_frzA0, ↓wM_frzA, ↓wM_lookA0, ↓wM_lookA, ↓wM_tup, ↓wM_lst, ↓wM_B, ↓wM_isi, ↓wM_me, ↓wM_sl, ↓wM_noP, ↓wM_part, ↓wM_key, ↓wM_call, ↓wM_argSA0, ↓wM_argSA, ↓wM_argS_fz, ↓wM_argS_ow, ↓wM_argS_nm, ↓wM_mut, ↓wM_yes, ↓wM_rng1, ↓wM_rng2, ↓wM_wkV, ↓wM_wkT, ↓wM_wkL, ↓wM_wk2, ↓wM_wkB, ↓wM_wkC, ↓wM_not, ↓wM_tru, ↓wM_and, ↓wM_or, ↓wM_andV, ↓wM_orV, ↓wM_notV, ↓wM_ifE, ↓wM_chain, ↓wM_chainT, ↓wM_dispN, ↓wM_pairs0, ↓wM_pairs, ↓wM_new, ↓wO_gsC, ↓wS_seq, ↓wS_pass, ↓wS_brk, ↓wS_cnt, ↓wS_ret, ↓wS_drop, ↓wS_if, ↓wS_set, ↓wS_asg, ↓wS_par, ↓wS_put, ↓wS_augS, ↓wS_aug, ↓wM_run', wO_some, varK_fz, varK_ow, varK_lk, lookK_fz, lookK_ow, lookK_lk, frzK_fz, frzK_ow, frzK_lk, argK_fz, argK_owt, argK_owf, argK_lkt, argK_lkf, mutK_ow', mutO_ow, putK'_ow, getK_ow, fzO_fz, augK_fz, intD_int, retK_fz, retK_ow, retK_nm, retO_fz, retO_ow, retO_lk, setR_fz, setR_ow, setR_nm, setK_fz, setK_ow, setK_lk, tru_b, tru_n, tru_l, tru_t, key_i, key_s, gIAdd_ii, gISub_ii, gPow_18, gN_ok, gsN_ok, gT_ok, setQs_nil, setQs_fz, setQs_ow, outP_t, outP_f, outP_n, wkO_fz, wkO_ow, wkO_lk, wk_fz, wk_ow, wk_nm, items_l, items_t, unl_none, unl_some, unlK_lk, callK_R, callR_fz, callR_ow, rest_nil, rest_cons, restK_some, wipe_nil, wipe_cons, gAdd_ii, gSub_ii, gMul_l, gMul_r, gDiv_ii, gMod_ii, gNeg_i, gEq_ii, gEq_ss, gEq_bb, gNe_ii, gNe_ss, gLt_ii, gLe_ii, gGt_ii, gGe_ii, gIx_l0, gIx_t0, gIx_l1, gIx_t1, gIx_l2, gIx_t2, gIx_t3, gLen_l, gLen_t, gLen_d, gAbs_i, gAppend_l, gExtend_l, gInt_i, gTuple_l, gTuple_t, gList_l, gList_t, gMax_ii, gMin_ii, gSum_l, gIs_none, isLst, isT, isOw, List.getElem?_cons_zero, List.getElem?_cons_succ, List.length_cons, List.length_nil, List.cons_append, List.nil_append, List.replicate, List.set_cons_zero, List.set_cons_succ, true_and, and_true, if_true, List.map_cons, List.map_nil, Nat.reduceAdd, Nat.reduceSub, Nat.reduceLT, Nat.reduceLeDiff, List.length_set, List.length_map, List.length_append, List.length_range, reduceIte, reduceDIte, Bool.false_eq_true, slotOf, wb, Option.getD_some, nmOk, heldR, List.all_cons, List.all_nil, List.any_cons, List.any_nil, isNm, Bool.and_true, Bool.true_and, Bool.false_and, Bool.and_false, Bool.not_false, Bool.not_true, Bool.or_false, if_pos (show ((ds.length : Int) < i + 1) by omega), h, e2]
set_option maxHeartbeats 2000000
theorem draws_ok (script : List Int) (hs : script.length ≤ 63) (many : Nat) (hm : many ≤ 100000) : ∃ ds : List Int, drawsF [.fz (.list (script.map .int)), .fz (.int many)] = .ok (.ow (.list (ds.map .int))) [.fz (.list (script.map .int)), .fz (.int many)] := by
  have key : wM drawsF [.fz (.list (script.map .int)), .fz (.int many)] fun r ρ => ∃ ds : List Int, r = .ow (.list (ds.map .int)) ∧ ρ = [.fz (.list (script.map .int)), .fz (.int many)] := by
    unfold drawsF drawsB
    simp (disch := first | omega | (simp only [List.length_map, List.length_append, List.length_cons, List.length_nil, List.length_set, List.length_range, sizeLine_eq]; done) | (simp only [List.length_map, List.length_append, List.length_cons, List.length_nil, List.length_set, List.length_range, sizeLine_eq]; omega)) only [↓wM_bd, ↓wM_pr, ↓wM_opt, ↓wM_C, ↓wM_var, ↓wM_look_fz, ↓wM_look_ow, ↓wM_look_nm, ↓wM_frz_fz, ↓wM_frz_ow, ↓wM_frz_nm, ↓wM_op2, ↓wM_op2T, ↓wO_gB, ↓wM_op1, ↓wM_nil, ↓wM_cons, ↓wM_frzA0, ↓wM_frzA, ↓wM_lookA0, ↓wM_lookA, ↓wM_tup, ↓wM_lst, ↓wM_B, ↓wM_isi, ↓wM_me, ↓wM_sl, ↓wM_noP, ↓wM_part, ↓wM_key, ↓wM_call, ↓wM_argSA0, ↓wM_argSA, ↓wM_argS_fz, ↓wM_argS_ow, ↓wM_argS_nm, ↓wM_mut, ↓wM_yes, ↓wM_rng1, ↓wM_rng2, ↓wM_wkV, ↓wM_wkT, ↓wM_wkL, ↓wM_wk2, ↓wM_wkB, ↓wM_wkC, ↓wM_not, ↓wM_tru, ↓wM_and, ↓wM_or, ↓wM_andV, ↓wM_orV, ↓wM_notV, ↓wM_ifE, ↓wM_chain, ↓wM_chainT, ↓wM_dispN, ↓wM_pairs0, ↓wM_pairs, ↓wM_new, ↓wO_gsC, ↓wS_seq, ↓wS_pass, ↓wS_brk, ↓wS_cnt, ↓wS_ret, ↓wS_drop, ↓wS_if, ↓wS_set, ↓wS_asg, ↓wS_par, ↓wS_put, ↓wS_augS, ↓wS_aug, ↓wM_run', wO_some, varK_fz, varK_ow, varK_lk, lookK_fz, lookK_ow, lookK_lk, frzK_fz, frzK_ow, frzK_lk, argK_fz, argK_owt, argK_owf, argK_lkt, argK_lkf, mutK_ow', mutO_ow, putK'_ow, getK_ow, fzO_fz, augK_fz, intD_int, retK_fz, retK_ow, retK_nm, retO_fz, retO_ow, retO_lk, setR_fz, setR_ow, setR_nm, setK_fz, setK_ow, setK_lk, tru_b, tru_n, tru_l, tru_t, key_i, key_s, gIAdd_ii, gISub_ii, gPow_18, gN_ok, gsN_ok, gT_ok, setQs_nil, setQs_fz, setQs_ow, outP_t, outP_f, outP_n, wkO_fz, wkO_ow, wkO_lk, wk_fz, wk_ow, wk_nm, items_l, items_t, unl_none, unl_some, unlK_lk, callK_R, callR_fz, callR_ow, rest_nil, rest_cons, restK_some, wipe_nil, wipe_cons, gAdd_ii, gSub_ii, gMul_l, gMul_r, gDiv_ii, gMod_ii, gNeg_i, gEq_ii, gEq_ss, gEq_bb, gNe_ii, gNe_ss, gLt_ii, gLe_ii, gGt_ii, gGe_ii, gIx_l0, gIx_t0, gIx_l1, gIx_t1, gIx_l2, gIx_t2, gIx_t3, gLen_l, gLen_t, gLen_d, gAbs_i, gAppend_l, gExtend_l, gInt_i, gTuple_l, gTuple_t, gList_l, gList_t, gMax_ii, gMin_ii, gSum_l, gIs_none, isLst, isT, isOw, List.getElem?_cons_zero, List.getElem?_cons_succ, List.length_cons, List.length_nil, List.cons_append, List.nil_append, List.replicate, List.set_cons_zero, List.set_cons_succ, true_and, and_true, if_true, List.map_cons, List.map_nil, Nat.reduceAdd, Nat.reduceSub, Nat.reduceLT, Nat.reduceLeDiff, List.length_set, List.length_map, List.length_append, List.length_range, reduceIte, reduceDIte, Bool.false_eq_true, slotOf, wb, Option.getD_some, nmOk, heldR, List.all_cons, List.all_nil, List.any_cons, List.any_nil, isNm, Bool.and_true, Bool.true_and, Bool.false_and, Bool.and_false, Bool.not_false, Bool.not_true, Bool.or_false]
    refine wS_forI (by simp (disch := first | omega | (simp only [List.length_map, List.length_append, List.length_cons, List.length_nil, List.length_set, List.length_range, sizeLine_eq]; done) | (simp only [List.length_map, List.length_append, List.length_cons, List.length_nil, List.length_set, List.length_range, sizeLine_eq]; omega)) only [↓wM_bd, ↓wM_pr, ↓wM_opt, ↓wM_C, ↓wM_var, ↓wM_look_fz, ↓wM_look_ow, ↓wM_look_nm, ↓wM_frz_fz, ↓wM_frz_ow, ↓wM_frz_nm, ↓wM_op2, ↓wM_op2T, ↓wO_gB, ↓wM_op1, ↓wM_nil, ↓wM_cons, ↓wM_frzA0, ↓wM_frzA, ↓wM_lookA0, ↓wM_lookA, ↓wM_tup, ↓wM_lst, ↓wM_B, ↓wM_isi, ↓wM_me, ↓wM_sl, ↓wM_noP, ↓wM_part, ↓wM_key, ↓wM_call, ↓wM_argSA0, ↓wM_argSA, ↓wM_argS_fz, ↓wM_argS_ow, ↓wM_argS_nm, ↓wM_mut, ↓wM_yes, ↓wM_rng1, ↓wM_rng2, ↓wM_wkV, ↓wM_wkT, ↓wM_wkL, ↓wM_wk2, ↓wM_wkB, ↓wM_wkC, ↓wM_not, ↓wM_tru, ↓wM_and, ↓wM_or, ↓wM_andV, ↓wM_orV, ↓wM_notV, ↓wM_ifE, ↓wM_chain, ↓wM_chainT, ↓wM_dispN, ↓wM_pairs0, ↓wM_pairs, ↓wM_new, ↓wO_gsC, ↓wS_seq, ↓wS_pass, ↓wS_brk, ↓wS_cnt, ↓wS_ret, ↓wS_drop, ↓wS_if, ↓wS_set, ↓wS_asg, ↓wS_par, ↓wS_put, ↓wS_augS, ↓wS_aug, ↓wM_run', wO_some, varK_fz, varK_ow, varK_lk, lookK_fz, lookK_ow, lookK_lk, frzK_fz, frzK_ow, frzK_lk, argK_fz, argK_owt, argK_owf, argK_lkt, argK_lkf, mutK_ow', mutO_ow, putK'_ow, getK_ow, fzO_fz, augK_fz, intD_int, retK_fz, retK_ow, retK_nm, retO_fz, retO_ow, retO_lk, setR_fz, setR_ow, setR_nm, setK_fz, setK_ow, setK_lk, tru_b, tru_n, tru_l, tru_t, key_i, key_s, gIAdd_ii, gISub_ii, gPow_18, gN_ok, gsN_ok, gT_ok, setQs_nil, setQs_fz, setQs_ow, outP_t, outP_f, outP_n, wkO_fz, wkO_ow, wkO_lk, wk_fz, wk_ow, wk_nm, items_l, items_t, unl_none, unl_some, unlK_lk, callK_R, callR_fz, callR_ow, rest_nil, rest_cons, restK_some, wipe_nil, wipe_cons, gAdd_ii, gSub_ii, gMul_l, gMul_r, gDiv_ii, gMod_ii, gNeg_i, gEq_ii, gEq_ss, gEq_bb, gNe_ii, gNe_ss, gLt_ii, gLe_ii, gGt_ii, gGe_ii, gIx_l0, gIx_t0, gIx_l1, gIx_t1, gIx_l2, gIx_t2, gIx_t3, gLen_l, gLen_t, gLen_d, gAbs_i, gAppend_l, gExtend_l, gInt_i, gTuple_l, gTuple_t, gList_l, gList_t, gMax_ii, gMin_ii, gSum_l, gIs_none, isLst, isT, isOw, List.getElem?_cons_zero, List.getElem?_cons_succ, List.length_cons, List.length_nil, List.cons_append, List.nil_append, List.replicate, List.set_cons_zero, List.set_cons_succ, true_and, and_true, if_true, List.map_cons, List.map_nil, Nat.reduceAdd, Nat.reduceSub, Nat.reduceLT, Nat.reduceLeDiff, List.length_set, List.length_map, List.length_append, List.length_range, reduceIte, reduceDIte, Bool.false_eq_true, slotOf, wb, Option.getD_some, nmOk, heldR, List.all_cons, List.all_nil, List.any_cons, List.any_nil, isNm, Bool.and_true, Bool.true_and, Bool.false_and, Bool.and_false, Bool.not_false, Bool.not_true, Bool.or_false, rng1_ok, rng2_ok] <;> (first | exact ⟨rfl, rfl⟩ | exact rfl)) (fun j ρ => ∃ (ds : List Int) (mixed : Int) (s4 s5 s6 s7 : Sl), ρ = [.fz (.list (script.map .int)), .fz (.int many), .ow (.list (ds.map .int)), .fz (.int mixed), s4, s5, s6, s7] ∧ ds.length ≤ j * 62) ⟨[], 7, _, _, _, _, rfl, by simp⟩ ?_ ?_
    · intro k d ρ hd ⟨ds, mixed, s4, s5, s6, s7, e, hl⟩
      subst e
      obtain ⟨hk, rfl⟩ := at_rng hd
      rw [Int.toNat_natCast] at hk
      simp (disch := first | omega | (simp only [List.length_map, List.length_append, List.length_cons, List.length_nil, List.length_set, List.length_range, sizeLine_eq]; done) | (simp only [List.length_map, List.length_append, List.length_cons, List.length_nil, List.length_set, List.length_range, sizeLine_eq]; omega)) only [↓wM_bd, ↓wM_pr, ↓wM_opt, ↓wM_C, ↓wM_var, ↓wM_look_fz, ↓wM_look_ow, ↓wM_look_nm, ↓wM_frz_fz, ↓wM_frz_ow, ↓wM_frz_nm, ↓wM_op2, ↓wM_op2T, ↓wO_gB, ↓wM_op1, ↓wM_nil, ↓wM_cons, ↓wM_frzA0, ↓wM_frzA, ↓wM_lookA0, ↓wM_lookA, ↓wM_tup, ↓wM_lst, ↓wM_B, ↓wM_isi, ↓wM_me, ↓wM_sl, ↓wM_noP, ↓wM_part, ↓wM_key, ↓wM_call, ↓wM_argSA0, ↓wM_argSA, ↓wM_argS_fz, ↓wM_argS_ow, ↓wM_argS_nm, ↓wM_mut, ↓wM_yes, ↓wM_rng1, ↓wM_rng2, ↓wM_wkV, ↓wM_wkT, ↓wM_wkL, ↓wM_wk2, ↓wM_wkB, ↓wM_wkC, ↓wM_not, ↓wM_tru, ↓wM_and, ↓wM_or, ↓wM_andV, ↓wM_orV, ↓wM_notV, ↓wM_ifE, ↓wM_chain, ↓wM_chainT, ↓wM_dispN, ↓wM_pairs0, ↓wM_pairs, ↓wM_new, ↓wO_gsC, ↓wS_seq, ↓wS_pass, ↓wS_brk, ↓wS_cnt, ↓wS_ret, ↓wS_drop, ↓wS_if, ↓wS_set, ↓wS_asg, ↓wS_par, ↓wS_put, ↓wS_augS, ↓wS_aug, ↓wM_run', wO_some, varK_fz, varK_ow, varK_lk, lookK_fz, lookK_ow, lookK_lk, frzK_fz, frzK_ow, frzK_lk, argK_fz, argK_owt, argK_owf, argK_lkt, argK_lkf, mutK_ow', mutO_ow, putK'_ow, getK_ow, fzO_fz, augK_fz, intD_int, retK_fz, retK_ow, retK_nm, retO_fz, retO_ow, retO_lk, setR_fz, setR_ow, setR_nm, setK_fz, setK_ow, setK_lk, tru_b, tru_n, tru_l, tru_t, key_i, key_s, gIAdd_ii, gISub_ii, gPow_18, gN_ok, gsN_ok, gT_ok, setQs_nil, setQs_fz, setQs_ow, outP_t, outP_f, outP_n, wkO_fz, wkO_ow, wkO_lk, wk_fz, wk_ow, wk_nm, items_l, items_t, unl_none, unl_some, unlK_lk, callK_R, callR_fz, callR_ow, rest_nil, rest_cons, restK_some, wipe_nil, wipe_cons, gAdd_ii, gSub_ii, gMul_l, gMul_r, gDiv_ii, gMod_ii, gNeg_i, gEq_ii, gEq_ss, gEq_bb, gNe_ii, gNe_ss, gLt_ii, gLe_ii, gGt_ii, gGe_ii, gIx_l0, gIx_t0, gIx_l1, gIx_t1, gIx_l2, gIx_t2, gIx_t3, gLen_l, gLen_t, gLen_d, gAbs_i, gAppend_l, gExtend_l, gInt_i, gTuple_l, gTuple_t, gList_l, gList_t, gMax_ii, gMin_ii, gSum_l, gIs_none, isLst, isT, isOw, List.getElem?_cons_zero, List.getElem?_cons_succ, List.length_cons, List.length_nil, List.cons_append, List.nil_append, List.replicate, List.set_cons_zero, List.set_cons_succ, true_and, and_true, if_true, List.map_cons, List.map_nil, Nat.reduceAdd, Nat.reduceSub, Nat.reduceLT, Nat.reduceLeDiff, List.length_set, List.length_map, List.length_append, List.length_range, reduceIte, reduceDIte, Bool.false_eq_true, slotOf, wb, Option.getD_some, nmOk, heldR, List.all_cons, List.all_nil, List.any_cons, List.any_nil, isNm, Bool.and_true, Bool.true_and, Bool.false_and, Bool.and_false, Bool.not_false, Bool.not_true, Bool.or_false, gIx_lm]
      generalize (if script[k] < 0 then -script[k] else script[k]) = cell
      have inner : ∀ (ds : List Int) (mixed : Int) (s4 s5 s7 : Sl) (rest : Int), ds.length ≤ k * 62 + 2 → wS (dFor (dRng1 (dCons (dC (.int 60)) dNil)) (gN 7)
         ((dIf (dOp2T gGt (dVar 6) (dC (.int 0)))
         ((dSeq (dDrop (dMut 2 isLst true gAppend (dCons (dOp2 gMod (dB gInt (dCons (dVar 6) dNil)) (dC (.int 997))) dNil)))
         (dSet 6 (dOp2 gDiv (dVar 6) (dC (.int 997))))))
         (dPass)))) [.fz (.list (script.map .int)), .fz (.int many), .ow (.list (ds.map .int)), .fz (.int mixed), s4, s5, .fz (.int rest), s7]
         (fun ρ => ∃ (ds : List Int) (mixed : Int) (s4 s5 s6 s7 : Sl), ρ = [.fz (.list (script.map .int)), .fz (.int many), .ow (.list (ds.map .int)), .fz (.int mixed), s4, s5, s6, s7] ∧ ds.length ≤ (k + 1) * 62) (fun _ _ => False) nope nope := by
        intro ds mixed s4 s5 s7 rest hl
        refine wS_forI (by simp (disch := first | omega | (simp only [List.length_map, List.length_append, List.length_cons, List.length_nil, List.length_set, List.length_range, sizeLine_eq]; done) | (simp only [List.length_map, List.length_append, List.length_cons, List.length_nil, List.length_set, List.length_range, sizeLine_eq]; omega)) only [↓wM_bd, ↓wM_pr, ↓wM_opt, ↓wM_C, ↓wM_var, ↓wM_look_fz, ↓wM_look_ow, ↓wM_look_nm, ↓wM_frz_fz, ↓wM_frz_ow, ↓wM_frz_nm, ↓wM_op2, ↓wM_op2T, ↓wO_gB, ↓wM_op1, ↓wM_nil, ↓wM_cons, ↓wM_frzA0, ↓wM_frzA, ↓wM_lookA0, ↓wM_lookA, ↓wM_tup, ↓wM_lst, ↓wM_B, ↓wM_isi, ↓wM_me, ↓wM_sl, ↓wM_noP, ↓wM_part, ↓wM_key, ↓wM_call, ↓wM_argSA0, ↓wM_argSA, ↓wM_argS_fz, ↓wM_argS_ow, ↓wM_argS_nm, ↓wM_mut, ↓wM_yes, ↓wM_rng1, ↓wM_rng2, ↓wM_wkV, ↓wM_wkT, ↓wM_wkL, ↓wM_wk2, ↓wM_wkB, ↓wM_wkC, ↓wM_not, ↓wM_tru, ↓wM_and, ↓wM_or, ↓wM_andV, ↓wM_orV, ↓wM_notV, ↓wM_ifE, ↓wM_chain, ↓wM_chainT, ↓wM_dispN, ↓wM_pairs0, ↓wM_pairs, ↓wM_new, ↓wO_gsC, ↓wS_seq, ↓wS_pass, ↓wS_brk, ↓wS_cnt, ↓wS_ret, ↓wS_drop, ↓wS_if, ↓wS_set, ↓wS_asg, ↓wS_par, ↓wS_put, ↓wS_augS, ↓wS_aug, ↓wM_run', wO_some, varK_fz, varK_ow, varK_lk, lookK_fz, lookK_ow, lookK_lk, frzK_fz, frzK_ow, frzK_lk, argK_fz, argK_owt, argK_owf, argK_lkt, argK_lkf, mutK_ow', mutO_ow, putK'_ow, getK_ow, fzO_fz, augK_fz, intD_int, retK_fz, retK_ow, retK_nm, retO_fz, retO_ow, retO_lk, setR_fz, setR_ow, setR_nm, setK_fz, setK_ow, setK_lk, tru_b, tru_n, tru_l, tru_t, key_i, key_s, gIAdd_ii, gISub_ii, gPow_18, gN_ok, gsN_ok, gT_ok, setQs_nil, setQs_fz, setQs_ow, outP_t, outP_f, outP_n, wkO_fz, wkO_ow, wkO_lk, wk_fz, wk_ow, wk_nm, items_l, items_t, unl_none, unl_some, unlK_lk, callK_R, callR_fz, callR_ow, rest_nil, rest_cons, restK_some, wipe_nil, wipe_cons, gAdd_ii, gSub_ii, gMul_l, gMul_r, gDiv_ii, gMod_ii, gNeg_i, gEq_ii, gEq_ss, gEq_bb, gNe_ii, gNe_ss, gLt_ii, gLe_ii, gGt_ii, gGe_ii, gIx_l0, gIx_t0, gIx_l1, gIx_t1, gIx_l2, gIx_t2, gIx_t3, gLen_l, gLen_t, gLen_d, gAbs_i, gAppend_l, gExtend_l, gInt_i, gTuple_l, gTuple_t, gList_l, gList_t, gMax_ii, gMin_ii, gSum_l, gIs_none, isLst, isT, isOw, List.getElem?_cons_zero, List.getElem?_cons_succ, List.length_cons, List.length_nil, List.cons_append, List.nil_append, List.replicate, List.set_cons_zero, List.set_cons_succ, true_and, and_true, if_true, List.map_cons, List.map_nil, Nat.reduceAdd, Nat.reduceSub, Nat.reduceLT, Nat.reduceLeDiff, List.length_set, List.length_map, List.length_append, List.length_range, reduceIte, reduceDIte, Bool.false_eq_true, slotOf, wb, Option.getD_some, nmOk, heldR, List.all_cons, List.all_nil, List.any_cons, List.any_nil, isNm, Bool.and_true, Bool.true_and, Bool.false_and, Bool.and_false, Bool.not_false, Bool.not_true, Bool.or_false, rng1_ok, rng2_ok] <;> (first | exact ⟨rfl, rfl⟩ | exact rfl)) (fun j ρ => ∃ (ds : List Int) (rest : Int) (s7 : Sl), ρ = [.fz (.list (script.map .int)), .fz (.int many), .ow (.list (ds.map .int)), .fz (.int mixed), s4, s5, .fz (.int rest), s7] ∧ ds.length ≤ k * 62 + 2 + j) ⟨ds, rest, s7, rfl, hl⟩ ?_ ?_
        · intro j d ρ hd ⟨ds, rest, s7, e, hl⟩
          subst e
          obtain ⟨hj, rfl⟩ := at_rng hd
          have hj : j < 60 := by simpa using hj
          simp (disch := first | omega | (simp only [List.length_map, List.length_append, List.length_cons, List.length_nil, List.length_set, List.length_range, sizeLine_eq]; done) | (simp only [List.length_map, List.length_append, List.length_cons, List.length_nil, List.length_set, List.length_range, sizeLine_eq]; omega)) only [↓wM_bd, ↓wM_pr, ↓wM_opt, ↓wM_C, ↓wM_var, ↓wM_look_fz, ↓wM_look_ow, ↓wM_look_nm, ↓wM_frz_fz, ↓wM_frz_ow, ↓wM_frz_nm, ↓wM_op2, ↓wM_op2T, ↓wO_gB, ↓wM_op1, ↓wM_nil, ↓wM_cons, ↓wM_frzA0, ↓wM_frzA, ↓wM_lookA0, ↓wM_lookA, ↓wM_tup, ↓wM_lst, ↓wM_B, ↓wM_isi, ↓wM_me, ↓wM_sl, ↓wM_noP, ↓wM_part, ↓wM_key, ↓wM_call, ↓wM_argSA0, ↓wM_argSA, ↓wM_argS_fz, ↓wM_argS_ow, ↓wM_argS_nm, ↓wM_mut, ↓wM_yes, ↓wM_rng1, ↓wM_rng2, ↓wM_wkV, ↓wM_wkT, ↓wM_wkL, ↓wM_wk2, ↓wM_wkB, ↓wM_wkC, ↓wM_not, ↓wM_tru, ↓wM_and, ↓wM_or, ↓wM_andV, ↓wM_orV, ↓wM_notV, ↓wM_ifE, ↓wM_chain, ↓wM_chainT, ↓wM_dispN, ↓wM_pairs0, ↓wM_pairs, ↓wM_new, ↓wO_gsC, ↓wS_seq, ↓wS_pass, ↓wS_brk, ↓wS_cnt, ↓wS_ret, ↓wS_drop, ↓wS_if, ↓wS_set, ↓wS_asg, ↓wS_par, ↓wS_put, ↓wS_augS, ↓wS_aug, ↓wM_run', wO_some, varK_fz, varK_ow, varK_lk, lookK_fz, lookK_ow, lookK_lk, frzK_fz, frzK_ow, frzK_lk, argK_fz, argK_owt, argK_owf, argK_lkt, argK_lkf, mutK_ow', mutO_ow, putK'_ow, getK_ow, fzO_fz, augK_fz, intD_int, retK_fz, retK_ow, retK_nm, retO_fz, retO_ow, retO_lk, setR_fz, setR_ow, setR_nm, setK_fz, setK_ow, setK_lk, tru_b, tru_n, tru_l, tru_t, key_i, key_s, gIAdd_ii, gISub_ii, gPow_18, gN_ok, gsN_ok, gT_ok, setQs_nil, setQs_fz, setQs_ow, outP_t, outP_f, outP_n, wkO_fz, wkO_ow, wkO_lk, wk_fz, wk_ow, wk_nm, items_l, items_t, unl_none, unl_some, unlK_lk, callK_R, callR_fz, callR_ow, rest_nil, rest_cons, restK_some, wipe_nil, wipe_cons, gAdd_ii, gSub_ii, gMul_l, gMul_r, gDiv_ii, gMod_ii, gNeg_i, gEq_ii, gEq_ss, gEq_bb, gNe_ii, gNe_ss, gLt_ii, gLe_ii, gGt_ii, gGe_ii, gIx_l0, gIx_t0, gIx_l1, gIx_t1, gIx_l2, gIx_t2, gIx_t3, gLen_l, gLen_t, gLen_d, gAbs_i, gAppend_l, gExtend_l, gInt_i, gTuple_l, gTuple_t, gList_l, gList_t, gMax_ii, gMin_ii, gSum_l, gIs_none, isLst, isT, isOw, List.getElem?_cons_zero, List.getElem?_cons_succ, List.length_cons, List.length_nil, List.cons_append, List.nil_append, List.replicate, List.set_cons_zero, List.set_cons_succ, true_and, and_true, if_true, List.map_cons, List.map_nil, Nat.reduceAdd, Nat.reduceSub, Nat.reduceLT, Nat.reduceLeDiff, List.length_set, List.length_map, List.length_append, List.length_range, reduceIte, reduceDIte, Bool.false_eq_true, slotOf, wb, Option.getD_some, nmOk, heldR, List.all_cons, List.all_nil, List.any_cons, List.any_nil, isNm, Bool.and_true, Bool.true_and, Bool.false_and, Bool.and_false, Bool.not_false, Bool.not_true, Bool.or_false, gIx_lm]
          split
          · exact ⟨ds ++ [rest % 997], _, _, by rw [List.map_append]; rfl, by simp; omega⟩
          · exact ⟨ds, _, _, rfl, by omega⟩
        · intro ρ ⟨ds, rest, s7, e, hl⟩
          simp at hl
          exact ⟨ds, _, _, _, _, _, e, by omega⟩
      split
      · exact wS_mono (inner ds _ _ _ _ _ (by omega)) (fun _ h => h) (fun _ _ h => h.elim) (fun _ h => h.elim) (fun _ h => h.elim)
      · have := inner (ds ++ [cell % 997, ((mixed * 48271 + cell % 1000003 + (k : Int)) % 65537 * 69621 + 5) % 65521 % 997]) ((mixed * 48271 + cell % 1000003 + (k : Int)) % 65537) (.fz (.int k)) (.fz (.int cell)) s7 0 (by simp; omega)
        simp only [List.map_append, List.map_cons, List.map_nil] at this
        simp only [List.append_assoc, List.cons_append, List.nil_append]
        exact wS_mono this (fun _ h => h) (fun _ _ h => h.elim) (fun _ h => h.elim) (fun _ h => h.elim)
    · intro ρ ⟨ds, mixed, s4, s5, s6, s7, e, hl⟩
      subst e
      rw [unl_none]
      simp (disch := first | omega | (simp only [List.length_map, List.length_append, List.length_cons, List.length_nil, List.length_set, List.length_range, sizeLine_eq]; done) | (simp only [List.length_map, List.length_append, List.length_cons, List.length_nil, List.length_set, List.length_range, sizeLine_eq]; omega)) only [↓wM_bd, ↓wM_pr, ↓wM_opt, ↓wM_C, ↓wM_var, ↓wM_look_fz, ↓wM_look_ow, ↓wM_look_nm, ↓wM_frz_fz, ↓wM_frz_ow, ↓wM_frz_nm, ↓wM_op2, ↓wM_op2T, ↓wO_gB, ↓wM_op1, ↓wM_nil, ↓wM_cons, ↓wM_frzA0, ↓wM_frzA, ↓wM_lookA0, ↓wM_lookA, ↓wM_tup, ↓wM_lst, ↓wM_B, ↓wM_isi, ↓wM_me, ↓wM_sl, ↓wM_noP, ↓wM_part, ↓wM_key, ↓wM_call, ↓wM_argSA0, ↓wM_argSA, ↓wM_argS_fz, ↓wM_argS_ow, ↓wM_argS_nm, ↓wM_mut, ↓wM_yes, ↓wM_rng1, ↓wM_rng2, ↓wM_wkV, ↓wM_wkT, ↓wM_wkL, ↓wM_wk2, ↓wM_wkB, ↓wM_wkC, ↓wM_not, ↓wM_tru, ↓wM_and, ↓wM_or, ↓wM_andV, ↓wM_orV, ↓wM_notV, ↓wM_ifE, ↓wM_chain, ↓wM_chainT, ↓wM_dispN, ↓wM_pairs0, ↓wM_pairs, ↓wM_new, ↓wO_gsC, ↓wS_seq, ↓wS_pass, ↓wS_brk, ↓wS_cnt, ↓wS_ret, ↓wS_drop, ↓wS_if, ↓wS_set, ↓wS_asg, ↓wS_par, ↓wS_put, ↓wS_augS, ↓wS_aug, ↓wM_run', wO_some, varK_fz, varK_ow, varK_lk, lookK_fz, lookK_ow, lookK_lk, frzK_fz, frzK_ow, frzK_lk, argK_fz, argK_owt, argK_owf, argK_lkt, argK_lkf, mutK_ow', mutO_ow, putK'_ow, getK_ow, fzO_fz, augK_fz, intD_int, retK_fz, retK_ow, retK_nm, retO_fz, retO_ow, retO_lk, setR_fz, setR_ow, setR_nm, setK_fz, setK_ow, setK_lk, tru_b, tru_n, tru_l, tru_t, key_i, key_s, gIAdd_ii, gISub_ii, gPow_18, gN_ok, gsN_ok, gT_ok, setQs_nil, setQs_fz, setQs_ow, outP_t, outP_f, outP_n, wkO_fz, wkO_ow, wkO_lk, wk_fz, wk_ow, wk_nm, items_l, items_t, unl_none, unl_some, unlK_lk, callK_R, callR_fz, callR_ow, rest_nil, rest_cons, restK_some, wipe_nil, wipe_cons, gAdd_ii, gSub_ii, gMul_l, gMul_r, gDiv_ii, gMod_ii, gNeg_i, gEq_ii, gEq_ss, gEq_bb, gNe_ii, gNe_ss, gLt_ii, gLe_ii, gGt_ii, gGe_ii, gIx_l0, gIx_t0, gIx_l1, gIx_t1, gIx_l2, gIx_t2, gIx_t3, gLen_l, gLen_t, gLen_d, gAbs_i, gAppend_l, gExtend_l, gInt_i, gTuple_l, gTuple_t, gList_l, gList_t, gMax_ii, gMin_ii, gSum_l, gIs_none, isLst, isT, isOw, List.getElem?_cons_zero, List.getElem?_cons_succ, List.length_cons, List.length_nil, List.cons_append, List.nil_append, List.replicate, List.set_cons_zero, List.set_cons_succ, true_and, and_true, if_true, List.map_cons, List.map_nil, Nat.reduceAdd, Nat.reduceSub, Nat.reduceLT, Nat.reduceLeDiff, List.length_set, List.length_map, List.length_append, List.length_range, reduceIte, reduceDIte, Bool.false_eq_true, slotOf, wb, Option.getD_some, nmOk, heldR, List.all_cons, List.all_nil, List.any_cons, List.any_nil, isNm, Bool.and_true, Bool.true_and, Bool.false_and, Bool.and_false, Bool.not_false, Bool.not_true, Bool.or_false]
      refine wS_forI (by simp (disch := first | omega | (simp only [List.length_map, List.length_append, List.length_cons, List.length_nil, List.length_set, List.length_range, sizeLine_eq]; done) | (simp only [List.length_map, List.length_append, List.length_cons, List.length_nil, List.length_set, List.length_range, sizeLine_eq]; omega)) only [↓wM_bd, ↓wM_pr, ↓wM_opt, ↓wM_C, ↓wM_var, ↓wM_look_fz, ↓wM_look_ow, ↓wM_look_nm, ↓wM_frz_fz, ↓wM_frz_ow, ↓wM_frz_nm, ↓wM_op2, ↓wM_op2T, ↓wO_gB, ↓wM_op1, ↓wM_nil, ↓wM_cons, ↓wM_frzA0, ↓wM_frzA, ↓wM_lookA0, ↓wM_lookA, ↓wM_tup, ↓wM_lst, ↓wM_B, ↓wM_isi, ↓wM_me, ↓wM_sl, ↓wM_noP, ↓wM_part, ↓wM_key, ↓wM_call, ↓wM_argSA0, ↓wM_argSA, ↓wM_argS_fz, ↓wM_argS_ow, ↓wM_argS_nm, ↓wM_mut, ↓wM_yes, ↓wM_rng1, ↓wM_rng2, ↓wM_wkV, ↓wM_wkT, ↓wM_wkL, ↓wM_wk2, ↓wM_wkB, ↓wM_wkC, ↓wM_not, ↓wM_tru, ↓wM_and, ↓wM_or, ↓wM_andV, ↓wM_orV, ↓wM_notV, ↓wM_ifE, ↓wM_chain, ↓wM_chainT, ↓wM_dispN, ↓wM_pairs0, ↓wM_pairs, ↓wM_new, ↓wO_gsC, ↓wS_seq, ↓wS_pass, ↓wS_brk, ↓wS_cnt, ↓wS_ret, ↓wS_drop, ↓wS_if, ↓wS_set, ↓wS_asg, ↓wS_par, ↓wS_put, ↓wS_augS, ↓wS_aug, ↓wM_run', wO_some, varK_fz, varK_ow, varK_lk, lookK_fz, lookK_ow, lookK_lk, frzK_fz, frzK_ow, frzK_lk, argK_fz, argK_owt, argK_owf, argK_lkt, argK_lkf, mutK_ow', mutO_ow, putK'_ow, getK_ow, fzO_fz, augK_fz, intD_int, retK_fz, retK_ow, retK_nm, retO_fz, retO_ow, retO_lk, setR_fz, setR_ow, setR_nm, setK_fz, setK_ow, setK_lk, tru_b, tru_n, tru_l, tru_t, key_i, key_s, gIAdd_ii, gISub_ii, gPow_18, gN_ok, gsN_ok, gT_ok, setQs_nil, setQs_fz, setQs_ow, outP_t, outP_f, outP_n, wkO_fz, wkO_ow, wkO_lk, wk_fz, wk_ow, wk_nm, items_l, items_t, unl_none, unl_some, unlK_lk, callK_R, callR_fz, callR_ow, rest_nil, rest_cons, restK_some, wipe_nil, wipe_cons, gAdd_ii, gSub_ii, gMul_l, gMul_r, gDiv_ii, gMod_ii, gNeg_i, gEq_ii, gEq_ss, gEq_bb, gNe_ii, gNe_ss, gLt_ii, gLe_ii, gGt_ii, gGe_ii, gIx_l0, gIx_t0, gIx_l1, gIx_t1, gIx_l2, gIx_t2, gIx_t3, gLen_l, gLen_t, gLen_d, gAbs_i, gAppend_l, gExtend_l, gInt_i, gTuple_l, gTuple_t, gList_l, gList_t, gMax_ii, gMin_ii, gSum_l, gIs_none, isLst, isT, isOw, List.getElem?_cons_zero, List.getElem?_cons_succ, List.length_cons, List.length_nil, List.cons_append, List.nil_append, List.replicate, List.set_cons_zero, List.set_cons_succ, true_and, and_true, if_true, List.map_cons, List.map_nil, Nat.reduceAdd, Nat.reduceSub, Nat.reduceLT, Nat.reduceLeDiff, List.length_set, List.length_map, List.length_append, List.length_range, reduceIte, reduceDIte, Bool.false_eq_true, slotOf, wb, Option.getD_some, nmOk, heldR, List.all_cons, List.all_nil, List.any_cons, List.any_nil, isNm, Bool.and_true, Bool.true_and, Bool.false_and, Bool.and_false, Bool.not_false, Bool.not_true, Bool.or_false, rng1_ok, rng2_ok] <;> (first | exact ⟨rfl, rfl⟩ | exact rfl)) (fun j ρ => ∃ (ds : List Int) (mixed : Int) (s4 s5 s6 s7 : Sl), ρ = [.fz (.list (script.map .int)), .fz (.int many), .ow (.list (ds.map .int)), .fz (.int mixed), s4, s5, s6, s7] ∧ ds.length ≤ 4000 + j) ⟨ds, mixed, _, _, _, _, rfl, by simp at hl; omega⟩ ?_ ?_
      · intro k d ρ hd ⟨ds, mixed, s4, s5, s6, s7, e, hl⟩
        subst e
        obtain ⟨hk, rfl⟩ := at_rng hd
        rw [Int.toNat_natCast] at hk
        simp (disch := first | omega | (simp only [List.length_map, List.length_append, List.length_cons, List.length_nil, List.length_set, List.length_range, sizeLine_eq]; done) | (simp only [List.length_map, List.length_append, List.length_cons, List.length_nil, List.length_set, List.length_range, sizeLine_eq]; omega)) only [↓wM_bd, ↓wM_pr, ↓wM_opt, ↓wM_C, ↓wM_var, ↓wM_look_fz, ↓wM_look_ow, ↓wM_look_nm, ↓wM_frz_fz, ↓wM_frz_ow, ↓wM_frz_nm, ↓wM_op2, ↓wM_op2T, ↓wO_gB, ↓wM_op1, ↓wM_nil, ↓wM_cons, ↓wM_frzA0, ↓wM_frzA, ↓wM_lookA0, ↓wM_lookA, ↓wM_tup, ↓wM_lst, ↓wM_B, ↓wM_isi, ↓wM_me, ↓wM_sl, ↓wM_noP, ↓wM_part, ↓wM_key, ↓wM_call, ↓wM_argSA0, ↓wM_argSA, ↓wM_argS_fz, ↓wM_argS_ow, ↓wM_argS_nm, ↓wM_mut, ↓wM_yes, ↓wM_rng1, ↓wM_rng2, ↓wM_wkV, ↓wM_wkT, ↓wM_wkL, ↓wM_wk2, ↓wM_wkB, ↓wM_wkC, ↓wM_not, ↓wM_tru, ↓wM_and, ↓wM_or, ↓wM_andV, ↓wM_orV, ↓wM_notV, ↓wM_ifE, ↓wM_chain, ↓wM_chainT, ↓wM_dispN, ↓wM_pairs0, ↓wM_pairs, ↓wM_new, ↓wO_gsC, ↓wS_seq, ↓wS_pass, ↓wS_brk, ↓wS_cnt, ↓wS_ret, ↓wS_drop, ↓wS_if, ↓wS_set, ↓wS_asg, ↓wS_par, ↓wS_put, ↓wS_augS, ↓wS_aug, ↓wM_run', wO_some, varK_fz, varK_ow, varK_lk, lookK_fz, lookK_ow, lookK_lk, frzK_fz, frzK_ow, frzK_lk, argK_fz, argK_owt, argK_owf, argK_lkt, argK_lkf, mutK_ow', mutO_ow, putK'_ow, getK_ow, fzO_fz, augK_fz, intD_int, retK_fz, retK_ow, retK_nm, retO_fz, retO_ow, retO_lk, setR_fz, setR_ow, setR_nm, setK_fz, setK_ow, setK_lk, tru_b, tru_n, tru_l, tru_t, key_i, key_s, gIAdd_ii, gISub_ii, gPow_18, gN_ok, gsN_ok, gT_ok, setQs_nil, setQs_fz, setQs_ow, outP_t, outP_f, outP_n, wkO_fz, wkO_ow, wkO_lk, wk_fz, wk_ow, wk_nm, items_l, items_t, unl_none, unl_some, unlK_lk, callK_R, callR_fz, callR_ow, rest_nil, rest_cons, restK_some, wipe_nil, wipe_cons, gAdd_ii, gSub_ii, gMul_l, gMul_r, gDiv_ii, gMod_ii, gNeg_i, gEq_ii, gEq_ss, gEq_bb, gNe_ii, gNe_ss, gLt_ii, gLe_ii, gGt_ii, gGe_ii, gIx_l0, gIx_t0, gIx_l1, gIx_t1, gIx_l2, gIx_t2, gIx_t3, gLen_l, gLen_t, gLen_d, gAbs_i, gAppend_l, gExtend_l, gInt_i, gTuple_l, gTuple_t, gList_l, gList_t, gMax_ii, gMin_ii, gSum_l, gIs_none, isLst, isT, isOw, List.getElem?_cons_zero, List.getElem?_cons_succ, List.length_cons, List.length_nil, List.cons_append, List.nil_append, List.replicate, List.set_cons_zero, List.set_cons_succ, true_and, and_true, if_true, List.map_cons, List.map_nil, Nat.reduceAdd, Nat.reduceSub, Nat.reduceLT, Nat.reduceLeDiff, List.length_set, List.length_map, List.length_append, List.length_range, reduceIte, reduceDIte, Bool.false_eq_true, slotOf, wb, Option.getD_some, nmOk, heldR, List.all_cons, List.all_nil, List.any_cons, List.any_nil, isNm, Bool.and_true, Bool.true_and, Bool.false_and, Bool.and_false, Bool.not_false, Bool.not_true, Bool.or_false]
        exact ⟨ds ++ [(mixed * 16807 + k + 1) % 65537 % 997], (mixed * 16807 + k + 1) % 65537, _, _, _, _, by rw [List.map_append]; rfl, by simp; omega⟩
      · intro ρ ⟨ds, mixed, s4, s5, s6, s7, e, hl⟩
        subst e
        rw [unl_none]
        simp (disch := first | omega | (simp only [List.length_map, List.length_append, List.length_cons, List.length_nil, List.length_set, List.length_range, sizeLine_eq]; done) | (simp only [List.length_map, List.length_append, List.length_cons, List.length_nil, List.length_set, List.length_range, sizeLine_eq]; omega)) only [↓wM_bd, ↓wM_pr, ↓wM_opt, ↓wM_C, ↓wM_var, ↓wM_look_fz, ↓wM_look_ow, ↓wM_look_nm, ↓wM_frz_fz, ↓wM_frz_ow, ↓wM_frz_nm, ↓wM_op2, ↓wM_op2T, ↓wO_gB, ↓wM_op1, ↓wM_nil, ↓wM_cons, ↓wM_frzA0, ↓wM_frzA, ↓wM_lookA0, ↓wM_lookA, ↓wM_tup, ↓wM_lst, ↓wM_B, ↓wM_isi, ↓wM_me, ↓wM_sl, ↓wM_noP, ↓wM_part, ↓wM_key, ↓wM_call, ↓wM_argSA0, ↓wM_argSA, ↓wM_argS_fz, ↓wM_argS_ow, ↓wM_argS_nm, ↓wM_mut, ↓wM_yes, ↓wM_rng1, ↓wM_rng2, ↓wM_wkV, ↓wM_wkT, ↓wM_wkL, ↓wM_wk2, ↓wM_wkB, ↓wM_wkC, ↓wM_not, ↓wM_tru, ↓wM_and, ↓wM_or, ↓wM_andV, ↓wM_orV, ↓wM_notV, ↓wM_ifE, ↓wM_chain, ↓wM_chainT, ↓wM_dispN, ↓wM_pairs0, ↓wM_pairs, ↓wM_new, ↓wO_gsC, ↓wS_seq, ↓wS_pass, ↓wS_brk, ↓wS_cnt, ↓wS_ret, ↓wS_drop, ↓wS_if, ↓wS_set, ↓wS_asg, ↓wS_par, ↓wS_put, ↓wS_augS, ↓wS_aug, ↓wM_run', wO_some, varK_fz, varK_ow, varK_lk, lookK_fz, lookK_ow, lookK_lk, frzK_fz, frzK_ow, frzK_lk, argK_fz, argK_owt, argK_owf, argK_lkt, argK_lkf, mutK_ow', mutO_ow, putK'_ow, getK_ow, fzO_fz, augK_fz, intD_int, retK_fz, retK_ow, retK_nm, retO_fz, retO_ow, retO_lk, setR_fz, setR_ow, setR_nm, setK_fz, setK_ow, setK_lk, tru_b, tru_n, tru_l, tru_t, key_i, key_s, gIAdd_ii, gISub_ii, gPow_18, gN_ok, gsN_ok, gT_ok, setQs_nil, setQs_fz, setQs_ow, outP_t, outP_f, outP_n, wkO_fz, wkO_ow, wkO_lk, wk_fz, wk_ow, wk_nm, items_l, items_t, unl_none, unl_some, unlK_lk, callK_R, callR_fz, callR_ow, rest_nil, rest_cons, restK_some, wipe_nil, wipe_cons, gAdd_ii, gSub_ii, gMul_l, gMul_r, gDiv_ii, gMod_ii, gNeg_i, gEq_ii, gEq_ss, gEq_bb, gNe_ii, gNe_ss, gLt_ii, gLe_ii, gGt_ii, gGe_ii, gIx_l0, gIx_t0, gIx_l1, gIx_t1, gIx_l2, gIx_t2, gIx_t3, gLen_l, gLen_t, gLen_d, gAbs_i, gAppend_l, gExtend_l, gInt_i, gTuple_l, gTuple_t, gList_l, gList_t, gMax_ii, gMin_ii, gSum_l, gIs_none, isLst, isT, isOw, List.getElem?_cons_zero, List.getElem?_cons_succ, List.length_cons, List.length_nil, List.cons_append, List.nil_append, List.replicate, List.set_cons_zero, List.set_cons_succ, true_and, and_true, if_true, List.map_cons, List.map_nil, Nat.reduceAdd, Nat.reduceSub, Nat.reduceLT, Nat.reduceLeDiff, List.length_set, List.length_map, List.length_append, List.length_range, reduceIte, reduceDIte, Bool.false_eq_true, slotOf, wb, Option.getD_some, nmOk, heldR, List.all_cons, List.all_nil, List.any_cons, List.any_nil, isNm, Bool.and_true, Bool.true_and, Bool.false_and, Bool.and_false, Bool.not_false, Bool.not_true, Bool.or_false, gSl]
        refine ⟨ds.take many, ?_⟩
        unfold cutD
        simp [HT.sIx_nat, HT.sIx_none]
  obtain ⟨r, ρ', e, ds, rfl, rfl⟩ := wM_iff.mp key
  exact ⟨ds, e⟩
end DL
namespace DL
open PySem L2
def pickB (next : M Rs) : DS := dRet (dOp2 gIx (dVar 1) (dCall [true, true] next (dCons (dVar 0) (dCons (dB gLen (dCons (dVar 1) dNil)) dNil))))
def pickF : M Rs := runDef [true, true] 2 (pickB nextF)
/-- data of tuples, to a depth -/
def okV : Nat → D → Prop
  | 0, _ => False
  | n + 1, .tuple ds => ds.length ≤ 100000 ∧ ∀ d ∈ ds, okV n d
  | _ + 1, .int _ => True
  | _ + 1, .str _ => True
  | _ + 1, .bool _ => True
  | _ + 1, .none => True
  | _ + 1, _ => False
theorem isNone_t {ds : List D} : isNone (.tuple ds) = false := rfl
theorem isNone_i {i : Int} : isNone (.int i) = false := rfl
theorem isNone_s {i : Str} : isNone (.str i) = false := rfl
theorem isNone_b {i : Bool} : isNone (.bool i) = false := rfl
theorem isNone_n : isNone .none = true := rfl
theorem filter_no {α β : Type} {xs : List α} {f : α → β} : (xs.filter (fun _ => false)).map f = [] := by simp
theorem gEq_nil : gEq (.list []) (.list []) = some true := by rfl
def alikeB (self : M Rs) : DS :=
 (dSeq (dIf (dTru (dIsi .tuple (dVar 1)))
 ((dSeq (dIf (dOr (dNot (dTru (dIsi .tuple (dVar 0)))) (dOp2T gNe (dB gLen (dCons (dVar 0) dNil)) (dB gLen (dCons (dVar 1) dNil))))
 ((dRet (dC (.bool false))))
 (dPass))
 (dRet (dOp2 (gB gEq) (dLc [2] (dRng1 (dCons (dB gLen (dCons (dVar 1) dNil)) dNil)) (gN 2) (dNot (dTru (dCall [true, true] self (dCons (dOp2 gIx (dVar 0) (dVar 2)) (dCons (dOp2 gIx (dVar 1) (dVar 2)) dNil))))) (dVar 2)) (dLst dNil)))))
 (dPass))
 (dSeq (dIf (dOp2T gIs (dVar 1) (dC .none))
 ((dRet (dOp2 (gB gIs) (dVar 0) (dC .none))))
 (dPass))
 (dSeq (dIf (dTru (dIsi .bool (dVar 1)))
 ((dRet (dAndV (dIsi .bool (dVar 0)) (dOp2 (gB gEq) (dVar 0) (dVar 1)))))
 (dPass))
 (dSeq (dIf (dTru (dIsi .int (dVar 1)))
 ((dRet (dAndV (dIsi .int (dVar 0)) (dAndV (dNotV (dIsi .bool (dVar 0))) (dOp2 (gB gEq) (dVar 0) (dVar 1))))))
 (dPass))
 (dRet (dAndV (dIsi .str (dVar 0)) (dOp2 (gB gEq) (dVar 0) (dVar 1))))))))
def alikeF : Nat → M Rs
  | 0 => fun _ => .bad
  | d + 1 => runDef [true, true] 3 (alikeB (alikeF d))
theorem alike_ok : ∀ (n : Nat) (d : D), okV n d → alikeF n [.fz d, .fz d] = .ok (.fz (.bool true)) [.fz d, .fz d]
  | 0, _, h => h.elim
  | n + 1, .int i, _ => by
    unfold alikeF
    apply run_eq
    unfold alikeB
    simp (disch := first | omega | (simp only [List.length_map, List.length_append, List.length_cons, List.length_nil, List.length_set, List.length_range, sizeLine_eq]; done) | (simp only [List.length_map, List.length_append, List.length_cons, List.length_nil, List.length_set, List.length_range, sizeLine_eq]; omega)) only [↓wM_bd, ↓wM_pr, ↓wM_opt, ↓wM_C, ↓wM_var, ↓wM_look_fz, ↓wM_look_ow, ↓wM_look_nm, ↓wM_frz_fz, ↓wM_frz_ow, ↓wM_frz_nm, ↓wM_op2, ↓wM_op2T, ↓wO_gB, ↓wM_op1, ↓wM_nil, ↓wM_cons, ↓wM_frzA0, ↓wM_frzA, ↓wM_lookA0, ↓wM_lookA, ↓wM_tup, ↓wM_lst, ↓wM_B, ↓wM_isi, ↓wM_me, ↓wM_sl, ↓wM_noP, ↓wM_part, ↓wM_key, ↓wM_call, ↓wM_argSA0, ↓wM_argSA, ↓wM_argS_fz, ↓wM_argS_ow, ↓wM_argS_nm, ↓wM_mut, ↓wM_yes, ↓wM_rng1, ↓wM_rng2, ↓wM_wkV, ↓wM_wkT, ↓wM_wkL, ↓wM_wk2, ↓wM_wkB, ↓wM_wkC, ↓wM_not, ↓wM_tru, ↓wM_and, ↓wM_or, ↓wM_andV, ↓wM_orV, ↓wM_notV, ↓wM_ifE, ↓wM_chain, ↓wM_chainT, ↓wM_dispN, ↓wM_pairs0, ↓wM_pairs, ↓wM_new, ↓wO_gsC, ↓wS_seq, ↓wS_pass, ↓wS_brk, ↓wS_cnt, ↓wS_ret, ↓wS_drop, ↓wS_if, ↓wS_set, ↓wS_asg, ↓wS_par, ↓wS_put, ↓wS_augS, ↓wS_aug, ↓wM_run', wO_some, varK_fz, varK_ow, varK_lk, lookK_fz, lookK_ow, lookK_lk, frzK_fz, frzK_ow, frzK_lk, argK_fz, argK_owt, argK_owf, argK_lkt, argK_lkf, mutK_ow', mutO_ow, putK'_ow, getK_ow, fzO_fz, augK_fz, intD_int, retK_fz, retK_ow, retK_nm, retO_fz, retO_ow, retO_lk, setR_fz, setR_ow, setR_nm, setK_fz, setK_ow, setK_lk, tru_b, tru_n, tru_l, tru_t, key_i, key_s, gIAdd_ii, gISub_ii, gPow_18, gN_ok, gsN_ok, gT_ok, setQs_nil, setQs_fz, setQs_ow, outP_t, outP_f, outP_n, wkO_fz, wkO_ow, wkO_lk, wk_fz, wk_ow, wk_nm, items_l, items_t, unl_none, unl_some, unlK_lk, callK_R, callR_fz, callR_ow, rest_nil, rest_cons, restK_some, wipe_nil, wipe_cons, gAdd_ii, gSub_ii, gMul_l, gMul_r, gDiv_ii, gMod_ii, gNeg_i, gEq_ii, gEq_ss, gEq_bb, gNe_ii, gNe_ss, gLt_ii, gLe_ii, gGt_ii, gGe_ii, gIx_l0, gIx_t0, gIx_l1, gIx_t1, gIx_l2, gIx_t2, gIx_t3, gLen_l, gLen_t, gLen_d, gAbs_i, gAppend_l, gExtend_l, gInt_i, gTuple_l, gTuple_t, gList_l, gList_t, gMax_ii, gMin_ii, gSum_l, gIs_none, isLst, isT, isOw, List.getElem?_cons_zero, List.getElem?_cons_succ, List.length_cons, List.length_nil, List.cons_append, List.nil_append, List.replicate, List.set_cons_zero, List.set_cons_succ, true_and, and_true, if_true, List.map_cons, List.map_nil, Nat.reduceAdd, Nat.reduceSub, Nat.reduceLT, Nat.reduceLeDiff, List.length_set, List.length_map, List.length_append, List.length_range, reduceIte, reduceDIte, Bool.false_eq_true, slotOf, wb, Option.getD_some, nmOk, heldR, List.all_cons, List.all_nil, List.any_cons, List.any_nil, isNm, Bool.and_true, Bool.true_and, Bool.false_and, Bool.and_false, Bool.not_false, Bool.not_true, Bool.or_false, decide_true, isNone_i]
  | n + 1, .str i, _ => by
    unfold alikeF
    apply run_eq
    unfold alikeB
    simp (disch := first | omega | (simp only [List.length_map, List.length_append, List.length_cons, List.length_nil, List.length_set, List.length_range, sizeLine_eq]; done) | (simp only [List.length_map, List.length_append, List.length_cons, List.length_nil, List.length_set, List.length_range, sizeLine_eq]; omega)) only [↓wM_bd, ↓wM_pr, ↓wM_opt, ↓wM_C, ↓wM_var, ↓wM_look_fz, ↓wM_look_ow, ↓wM_look_nm, ↓wM_frz_fz, ↓wM_frz_ow, ↓wM_frz_nm, ↓wM_op2, ↓wM_op2T, ↓wO_gB, ↓wM_op1, ↓wM_nil, ↓wM_cons, ↓wM_frzA0, ↓wM_frzA, ↓wM_lookA0, ↓wM_lookA, ↓wM_tup, ↓wM_lst, ↓wM_B, ↓wM_isi, ↓wM_me, ↓wM_sl, ↓wM_noP, ↓wM_part, ↓wM_key, ↓wM_call, ↓wM_argSA0, ↓wM_argSA, ↓wM_argS_fz, ↓wM_argS_ow, ↓wM_argS_nm, ↓wM_mut, ↓wM_yes, ↓wM_rng1, ↓wM_rng2, ↓wM_wkV, ↓wM_wkT, ↓wM_wkL, ↓wM_wk2, ↓wM_wkB, ↓wM_wkC, ↓wM_not, ↓wM_tru, ↓wM_and, ↓wM_or, ↓wM_andV, ↓wM_orV, ↓wM_notV, ↓wM_ifE, ↓wM_chain, ↓wM_chainT, ↓wM_dispN, ↓wM_pairs0, ↓wM_pairs, ↓wM_new, ↓wO_gsC, ↓wS_seq, ↓wS_pass, ↓wS_brk, ↓wS_cnt, ↓wS_ret, ↓wS_drop, ↓wS_if, ↓wS_set, ↓wS_asg, ↓wS_par, ↓wS_put, ↓wS_augS, ↓wS_aug, ↓wM_run', wO_some, varK_fz, varK_ow, varK_lk, lookK_fz, lookK_ow, lookK_lk, frzK_fz, frzK_ow, frzK_lk, argK_fz, argK_owt, argK_owf, argK_lkt, argK_lkf, mutK_ow', mutO_ow, putK'_ow, getK_ow, fzO_fz, augK_fz, intD_int, retK_fz, retK_ow, retK_nm, retO_fz, retO_ow, retO_lk, setR_fz, setR_ow, setR_nm, setK_fz, setK_ow, setK_lk, tru_b, tru_n, tru_l, tru_t, key_i, key_s, gIAdd_ii, gISub_ii, gPow_18, gN_ok, gsN_ok, gT_ok, setQs_nil, setQs_fz, setQs_ow, outP_t, outP_f, outP_n, wkO_fz, wkO_ow, wkO_lk, wk_fz, wk_ow, wk_nm, items_l, items_t, unl_none, unl_some, unlK_lk, callK_R, callR_fz, callR_ow, rest_nil, rest_cons, restK_some, wipe_nil, wipe_cons, gAdd_ii, gSub_ii, gMul_l, gMul_r, gDiv_ii, gMod_ii, gNeg_i, gEq_ii, gEq_ss, gEq_bb, gNe_ii, gNe_ss, gLt_ii, gLe_ii, gGt_ii, gGe_ii, gIx_l0, gIx_t0, gIx_l1, gIx_t1, gIx_l2, gIx_t2, gIx_t3, gLen_l, gLen_t, gLen_d, gAbs_i, gAppend_l, gExtend_l, gInt_i, gTuple_l, gTuple_t, gList_l, gList_t, gMax_ii, gMin_ii, gSum_l, gIs_none, isLst, isT, isOw, List.getElem?_cons_zero, List.getElem?_cons_succ, List.length_cons, List.length_nil, List.cons_append, List.nil_append, List.replicate, List.set_cons_zero, List.set_cons_succ, true_and, and_true, if_true, List.map_cons, List.map_nil, Nat.reduceAdd, Nat.reduceSub, Nat.reduceLT, Nat.reduceLeDiff, List.length_set, List.length_map, List.length_append, List.length_range, reduceIte, reduceDIte, Bool.false_eq_true, slotOf, wb, Option.getD_some, nmOk, heldR, List.all_cons, List.all_nil, List.any_cons, List.any_nil, isNm, Bool.and_true, Bool.true_and, Bool.false_and, Bool.and_false, Bool.not_false, Bool.not_true, Bool.or_false, decide_true, isNone_s]
  | n + 1, .bool i, _ => by
    unfold alikeF
    apply run_eq
    unfold alikeB
    simp (disch := first | omega | (simp only [List.length_map, List.length_append, List.length_cons, List.length_nil, List.length_set, List.length_range, sizeLine_eq]; done) | (simp only [List.length_map, List.length_append, List.length_cons, List.length_nil, List.length_set, List.length_range, sizeLine_eq]; omega)) only [↓wM_bd, ↓wM_pr, ↓wM_opt, ↓wM_C, ↓wM_var, ↓wM_look_fz, ↓wM_look_ow, ↓wM_look_nm, ↓wM_frz_fz, ↓wM_frz_ow, ↓wM_frz_nm, ↓wM_op2, ↓wM_op2T, ↓wO_gB, ↓wM_op1, ↓wM_nil, ↓wM_cons, ↓wM_frzA0, ↓wM_frzA, ↓wM_lookA0, ↓wM_lookA, ↓wM_tup, ↓wM_lst, ↓wM_B, ↓wM_isi, ↓wM_me, ↓wM_sl, ↓wM_noP, ↓wM_part, ↓wM_key, ↓wM_call, ↓wM_argSA0, ↓wM_argSA, ↓wM_argS_fz, ↓wM_argS_ow, ↓wM_argS_nm, ↓wM_mut, ↓wM_yes, ↓wM_rng1, ↓wM_rng2, ↓wM_wkV, ↓wM_wkT, ↓wM_wkL, ↓wM_wk2, ↓wM_wkB, ↓wM_wkC, ↓wM_not, ↓wM_tru, ↓wM_and, ↓wM_or, ↓wM_andV, ↓wM_orV, ↓wM_notV, ↓wM_ifE, ↓wM_chain, ↓wM_chainT, ↓wM_dispN, ↓wM_pairs0, ↓wM_pairs, ↓wM_new, ↓wO_gsC, ↓wS_seq, ↓wS_pass, ↓wS_brk, ↓wS_cnt, ↓wS_ret, ↓wS_drop, ↓wS_if, ↓wS_set, ↓wS_asg, ↓wS_par, ↓wS_put, ↓wS_augS, ↓wS_aug, ↓wM_run', wO_some, varK_fz, varK_ow, varK_lk, lookK_fz, lookK_ow, lookK_lk, frzK_fz, frzK_ow, frzK_lk, argK_fz, argK_owt, argK_owf, argK_lkt, argK_lkf, mutK_ow', mutO_ow, putK'_ow, getK_ow, fzO_fz, augK_fz, intD_int, retK_fz, retK_ow, retK_nm, retO_fz, retO_ow, retO_lk, setR_fz, setR_ow, setR_nm, setK_fz, setK_ow, setK_lk, tru_b, tru_n, tru_l, tru_t, key_i, key_s, gIAdd_ii, gISub_ii, gPow_18, gN_ok, gsN_ok, gT_ok, setQs_nil, setQs_fz, setQs_ow, outP_t, outP_f, outP_n, wkO_fz, wkO_ow, wkO_lk, wk_fz, wk_ow, wk_nm, items_l, items_t, unl_none, unl_some, unlK_lk, callK_R, callR_fz, callR_ow, rest_nil, rest_cons, restK_some, wipe_nil, wipe_cons, gAdd_ii, gSub_ii, gMul_l, gMul_r, gDiv_ii, gMod_ii, gNeg_i, gEq_ii, gEq_ss, gEq_bb, gNe_ii, gNe_ss, gLt_ii, gLe_ii, gGt_ii, gGe_ii, gIx_l0, gIx_t0, gIx_l1, gIx_t1, gIx_l2, gIx_t2, gIx_t3, gLen_l, gLen_t, gLen_d, gAbs_i, gAppend_l, gExtend_l, gInt_i, gTuple_l, gTuple_t, gList_l, gList_t, gMax_ii, gMin_ii, gSum_l, gIs_none, isLst, isT, isOw, List.getElem?_cons_zero, List.getElem?_cons_succ, List.length_cons, List.length_nil, List.cons_append, List.nil_append, List.replicate, List.set_cons_zero, List.set_cons_succ, true_and, and_true, if_true, List.map_cons, List.map_nil, Nat.reduceAdd, Nat.reduceSub, Nat.reduceLT, Nat.reduceLeDiff, List.length_set, List.length_map, List.length_append, List.length_range, reduceIte, reduceDIte, Bool.false_eq_true, slotOf, wb, Option.getD_some, nmOk, heldR, List.all_cons, List.all_nil, List.any_cons, List.any_nil, isNm, Bool.and_true, Bool.true_and, Bool.false_and, Bool.and_false, Bool.not_false, Bool.not_true, Bool.or_false, decide_true, isNone_b]
  | n + 1, .none, _ => by
    unfold alikeF
    apply run_eq
    unfold alikeB
    simp (disch := first | omega | (simp only [List.length_map, List.length_append, List.length_cons, List.length_nil, List.length_set, List.length_range, sizeLine_eq]; done) | (simp only [List.length_map, List.length_append, List.length_cons, List.length_nil, List.length_set, List.length_range, sizeLine_eq]; omega)) only [↓wM_bd, ↓wM_pr, ↓wM_opt, ↓wM_C, ↓wM_var, ↓wM_look_fz, ↓wM_look_ow, ↓wM_look_nm, ↓wM_frz_fz, ↓wM_frz_ow, ↓wM_frz_nm, ↓wM_op2, ↓wM_op2T, ↓wO_gB, ↓wM_op1, ↓wM_nil, ↓wM_cons, ↓wM_frzA0, ↓wM_frzA, ↓wM_lookA0, ↓wM_lookA, ↓wM_tup, ↓wM_lst, ↓wM_B, ↓wM_isi, ↓wM_me, ↓wM_sl, ↓wM_noP, ↓wM_part, ↓wM_key, ↓wM_call, ↓wM_argSA0, ↓wM_argSA, ↓wM_argS_fz, ↓wM_argS_ow, ↓wM_argS_nm, ↓wM_mut, ↓wM_yes, ↓wM_rng1, ↓wM_rng2, ↓wM_wkV, ↓wM_wkT, ↓wM_wkL, ↓wM_wk2, ↓wM_wkB, ↓wM_wkC, ↓wM_not, ↓wM_tru, ↓wM_and, ↓wM_or, ↓wM_andV, ↓wM_orV, ↓wM_notV, ↓wM_ifE, ↓wM_chain, ↓wM_chainT, ↓wM_dispN, ↓wM_pairs0, ↓wM_pairs, ↓wM_new, ↓wO_gsC, ↓wS_seq, ↓wS_pass, ↓wS_brk, ↓wS_cnt, ↓wS_ret, ↓wS_drop, ↓wS_if, ↓wS_set, ↓wS_asg, ↓wS_par, ↓wS_put, ↓wS_augS, ↓wS_aug, ↓wM_run', wO_some, varK_fz, varK_ow, varK_lk, lookK_fz, lookK_ow, lookK_lk, frzK_fz, frzK_ow, frzK_lk, argK_fz, argK_owt, argK_owf, argK_lkt, argK_lkf, mutK_ow', mutO_ow, putK'_ow, getK_ow, fzO_fz, augK_fz, intD_int, retK_fz, retK_ow, retK_nm, retO_fz, retO_ow, retO_lk, setR_fz, setR_ow, setR_nm, setK_fz, setK_ow, setK_lk, tru_b, tru_n, tru_l, tru_t, key_i, key_s, gIAdd_ii, gISub_ii, gPow_18, gN_ok, gsN_ok, gT_ok, setQs_nil, setQs_fz, setQs_ow, outP_t, outP_f, outP_n, wkO_fz, wkO_ow, wkO_lk, wk_fz, wk_ow, wk_nm, items_l, items_t, unl_none, unl_some, unlK_lk, callK_R, callR_fz, callR_ow, rest_nil, rest_cons, restK_some, wipe_nil, wipe_cons, gAdd_ii, gSub_ii, gMul_l, gMul_r, gDiv_ii, gMod_ii, gNeg_i, gEq_ii, gEq_ss, gEq_bb, gNe_ii, gNe_ss, gLt_ii, gLe_ii, gGt_ii, gGe_ii, gIx_l0, gIx_t0, gIx_l1, gIx_t1, gIx_l2, gIx_t2, gIx_t3, gLen_l, gLen_t, gLen_d, gAbs_i, gAppend_l, gExtend_l, gInt_i, gTuple_l, gTuple_t, gList_l, gList_t, gMax_ii, gMin_ii, gSum_l, gIs_none, isLst, isT, isOw, List.getElem?_cons_zero, List.getElem?_cons_succ, List.length_cons, List.length_nil, List.cons_append, List.nil_append, List.replicate, List.set_cons_zero, List.set_cons_succ, true_and, and_true, if_true, List.map_cons, List.map_nil, Nat.reduceAdd, Nat.reduceSub, Nat.reduceLT, Nat.reduceLeDiff, List.length_set, List.length_map, List.length_append, List.length_range, reduceIte, reduceDIte, Bool.false_eq_true, slotOf, wb, Option.getD_some, nmOk, heldR, List.all_cons, List.all_nil, List.any_cons, List.any_nil, isNm, Bool.and_true, Bool.true_and, Bool.false_and, Bool.and_false, Bool.not_false, Bool.not_true, Bool.or_false, decide_true, isNone_n]
  | n + 1, .list _, h => h.elim
  | n + 1, .dict _, h => h.elim
  | n + 1, .tuple ds, ⟨hl, hd⟩ => by
    unfold alikeF
    apply run_eq
    unfold alikeB
    simp (disch := first | omega | (simp only [List.length_map, List.length_append, List.length_cons, List.length_nil, List.length_set, List.length_range, sizeLine_eq]; done) | (simp only [List.length_map, List.length_append, List.length_cons, List.length_nil, List.length_set, List.length_range, sizeLine_eq]; omega)) only [↓wM_bd, ↓wM_pr, ↓wM_opt, ↓wM_C, ↓wM_var, ↓wM_look_fz, ↓wM_look_ow, ↓wM_look_nm, ↓wM_frz_fz, ↓wM_frz_ow, ↓wM_frz_nm, ↓wM_op2, ↓wM_op2T, ↓wO_gB, ↓wM_op1, ↓wM_nil, ↓wM_cons, ↓wM_frzA0, ↓wM_frzA, ↓wM_lookA0, ↓wM_lookA, ↓wM_tup, ↓wM_lst, ↓wM_B, ↓wM_isi, ↓wM_me, ↓wM_sl, ↓wM_noP, ↓wM_part, ↓wM_key, ↓wM_call, ↓wM_argSA0, ↓wM_argSA, ↓wM_argS_fz, ↓wM_argS_ow, ↓wM_argS_nm, ↓wM_mut, ↓wM_yes, ↓wM_rng1, ↓wM_rng2, ↓wM_wkV, ↓wM_wkT, ↓wM_wkL, ↓wM_wk2, ↓wM_wkB, ↓wM_wkC, ↓wM_not, ↓wM_tru, ↓wM_and, ↓wM_or, ↓wM_andV, ↓wM_orV, ↓wM_notV, ↓wM_ifE, ↓wM_chain, ↓wM_chainT, ↓wM_dispN, ↓wM_pairs0, ↓wM_pairs, ↓wM_new, ↓wO_gsC, ↓wS_seq, ↓wS_pass, ↓wS_brk, ↓wS_cnt, ↓wS_ret, ↓wS_drop, ↓wS_if, ↓wS_set, ↓wS_asg, ↓wS_par, ↓wS_put, ↓wS_augS, ↓wS_aug, ↓wM_run', wO_some, varK_fz, varK_ow, varK_lk, lookK_fz, lookK_ow, lookK_lk, frzK_fz, frzK_ow, frzK_lk, argK_fz, argK_owt, argK_owf, argK_lkt, argK_lkf, mutK_ow', mutO_ow, putK'_ow, getK_ow, fzO_fz, augK_fz, intD_int, retK_fz, retK_ow, retK_nm, retO_fz, retO_ow, retO_lk, setR_fz, setR_ow, setR_nm, setK_fz, setK_ow, setK_lk, tru_b, tru_n, tru_l, tru_t, key_i, key_s, gIAdd_ii, gISub_ii, gPow_18, gN_ok, gsN_ok, gT_ok, setQs_nil, setQs_fz, setQs_ow, outP_t, outP_f, outP_n, wkO_fz, wkO_ow, wkO_lk, wk_fz, wk_ow, wk_nm, items_l, items_t, unl_none, unl_some, unlK_lk, callK_R, callR_fz, callR_ow, rest_nil, rest_cons, restK_some, wipe_nil, wipe_cons, gAdd_ii, gSub_ii, gMul_l, gMul_r, gDiv_ii, gMod_ii, gNeg_i, gEq_ii, gEq_ss, gEq_bb, gNe_ii, gNe_ss, gLt_ii, gLe_ii, gGt_ii, gGe_ii, gIx_l0, gIx_t0, gIx_l1, gIx_t1, gIx_l2, gIx_t2, gIx_t3, gLen_l, gLen_t, gLen_d, gAbs_i, gAppend_l, gExtend_l, gInt_i, gTuple_l, gTuple_t, gList_l, gList_t, gMax_ii, gMin_ii, gSum_l, gIs_none, isLst, isT, isOw, List.getElem?_cons_zero, List.getElem?_cons_succ, List.length_cons, List.length_nil, List.cons_append, List.nil_append, List.replicate, List.set_cons_zero, List.set_cons_succ, true_and, and_true, if_true, List.map_cons, List.map_nil, Nat.reduceAdd, Nat.reduceSub, Nat.reduceLT, Nat.reduceLeDiff, List.length_set, List.length_map, List.length_append, List.length_range, reduceIte, reduceDIte, Bool.false_eq_true, slotOf, wb, Option.getD_some, nmOk, heldR, List.all_cons, List.all_nil, List.any_cons, List.any_nil, isNm, Bool.and_true, Bool.true_and, Bool.false_and, Bool.and_false, Bool.not_false, Bool.not_true, Bool.or_false, decide_true, isNone_t]
    refine wM_lcM (by simp (disch := first | omega | (simp only [List.length_map, List.length_append, List.length_cons, List.length_nil, List.length_set, List.length_range, sizeLine_eq]; done) | (simp only [List.length_map, List.length_append, List.length_cons, List.length_nil, List.length_set, List.length_range, sizeLine_eq]; omega)) only [↓wM_bd, ↓wM_pr, ↓wM_opt, ↓wM_C, ↓wM_var, ↓wM_look_fz, ↓wM_look_ow, ↓wM_look_nm, ↓wM_frz_fz, ↓wM_frz_ow, ↓wM_frz_nm, ↓wM_op2, ↓wM_op2T, ↓wO_gB, ↓wM_op1, ↓wM_nil, ↓wM_cons, ↓wM_frzA0, ↓wM_frzA, ↓wM_lookA0, ↓wM_lookA, ↓wM_tup, ↓wM_lst, ↓wM_B, ↓wM_isi, ↓wM_me, ↓wM_sl, ↓wM_noP, ↓wM_part, ↓wM_key, ↓wM_call, ↓wM_argSA0, ↓wM_argSA, ↓wM_argS_fz, ↓wM_argS_ow, ↓wM_argS_nm, ↓wM_mut, ↓wM_yes, ↓wM_rng1, ↓wM_rng2, ↓wM_wkV, ↓wM_wkT, ↓wM_wkL, ↓wM_wk2, ↓wM_wkB, ↓wM_wkC, ↓wM_not, ↓wM_tru, ↓wM_and, ↓wM_or, ↓wM_andV, ↓wM_orV, ↓wM_notV, ↓wM_ifE, ↓wM_chain, ↓wM_chainT, ↓wM_dispN, ↓wM_pairs0, ↓wM_pairs, ↓wM_new, ↓wO_gsC, ↓wS_seq, ↓wS_pass, ↓wS_brk, ↓wS_cnt, ↓wS_ret, ↓wS_drop, ↓wS_if, ↓wS_set, ↓wS_asg, ↓wS_par, ↓wS_put, ↓wS_augS, ↓wS_aug, ↓wM_run', wO_some, varK_fz, varK_ow, varK_lk, lookK_fz, lookK_ow, lookK_lk, frzK_fz, frzK_ow, frzK_lk, argK_fz, argK_owt, argK_owf, argK_lkt, argK_lkf, mutK_ow', mutO_ow, putK'_ow, getK_ow, fzO_fz, augK_fz, intD_int, retK_fz, retK_ow, retK_nm, retO_fz, retO_ow, retO_lk, setR_fz, setR_ow, setR_nm, setK_fz, setK_ow, setK_lk, tru_b, tru_n, tru_l, tru_t, key_i, key_s, gIAdd_ii, gISub_ii, gPow_18, gN_ok, gsN_ok, gT_ok, setQs_nil, setQs_fz, setQs_ow, outP_t, outP_f, outP_n, wkO_fz, wkO_ow, wkO_lk, wk_fz, wk_ow, wk_nm, items_l, items_t, unl_none, unl_some, unlK_lk, callK_R, callR_fz, callR_ow, rest_nil, rest_cons, restK_some, wipe_nil, wipe_cons, gAdd_ii, gSub_ii, gMul_l, gMul_r, gDiv_ii, gMod_ii, gNeg_i, gEq_ii, gEq_ss, gEq_bb, gNe_ii, gNe_ss, gLt_ii, gLe_ii, gGt_ii, gGe_ii, gIx_l0, gIx_t0, gIx_l1, gIx_t1, gIx_l2, gIx_t2, gIx_t3, gLen_l, gLen_t, gLen_d, gAbs_i, gAppend_l, gExtend_l, gInt_i, gTuple_l, gTuple_t, gList_l, gList_t, gMax_ii, gMin_ii, gSum_l, gIs_none, isLst, isT, isOw, List.getElem?_cons_zero, List.getElem?_cons_succ, List.length_cons, List.length_nil, List.cons_append, List.nil_append, List.replicate, List.set_cons_zero, List.set_cons_succ, true_and, and_true, if_true, List.map_cons, List.map_nil, Nat.reduceAdd, Nat.reduceSub, Nat.reduceLT, Nat.reduceLeDiff, List.length_set, List.length_map, List.length_append, List.length_range, reduceIte, reduceDIte, Bool.false_eq_true, slotOf, wb, Option.getD_some, nmOk, heldR, List.all_cons, List.all_nil, List.any_cons, List.any_nil, isNm, Bool.and_true, Bool.true_and, Bool.false_and, Bool.and_false, Bool.not_false, Bool.not_true, Bool.or_false, rng1_ok, rng2_ok] <;> (first | exact ⟨rfl, rfl⟩ | exact rfl)) (fun _ => false) (fun _ => .none) (by rw [List.length_range]; simp only [Int.toNat_natCast, sizeLine_eq]; omega) (fun k hk => ?_) ?_
    · rw [List.mem_range, Int.toNat_natCast] at hk
      have e : gIx (.tuple ds) (.int (k : Int)) = some (.fz ds[k]) := gIx_t (by omega) (by rw [Int.toNat_natCast, List.getElem?_eq_getElem hk])
      simp (disch := first | omega | (simp only [List.length_map, List.length_append, List.length_cons, List.length_nil, List.length_set, List.length_range, sizeLine_eq]; done) | (simp only [List.length_map, List.length_append, List.length_cons, List.length_nil, List.length_set, List.length_range, sizeLine_eq]; omega)) only [↓wM_bd, ↓wM_pr, ↓wM_opt, ↓wM_C, ↓wM_var, ↓wM_look_fz, ↓wM_look_ow, ↓wM_look_nm, ↓wM_frz_fz, ↓wM_frz_ow, ↓wM_frz_nm, ↓wM_op2, ↓wM_op2T, ↓wO_gB, ↓wM_op1, ↓wM_nil, ↓wM_cons, ↓wM_frzA0, ↓wM_frzA, ↓wM_lookA0, ↓wM_lookA, ↓wM_tup, ↓wM_lst, ↓wM_B, ↓wM_isi, ↓wM_me, ↓wM_sl, ↓wM_noP, ↓wM_part, ↓wM_key, ↓wM_call, ↓wM_argSA0, ↓wM_argSA, ↓wM_argS_fz, ↓wM_argS_ow, ↓wM_argS_nm, ↓wM_mut, ↓wM_yes, ↓wM_rng1, ↓wM_rng2, ↓wM_wkV, ↓wM_wkT, ↓wM_wkL, ↓wM_wk2, ↓wM_wkB, ↓wM_wkC, ↓wM_not, ↓wM_tru, ↓wM_and, ↓wM_or, ↓wM_andV, ↓wM_orV, ↓wM_notV, ↓wM_ifE, ↓wM_chain, ↓wM_chainT, ↓wM_dispN, ↓wM_pairs0, ↓wM_pairs, ↓wM_new, ↓wO_gsC, ↓wS_seq, ↓wS_pass, ↓wS_brk, ↓wS_cnt, ↓wS_ret, ↓wS_drop, ↓wS_if, ↓wS_set, ↓wS_asg, ↓wS_par, ↓wS_put, ↓wS_augS, ↓wS_aug, ↓wM_run', wO_some, varK_fz, varK_ow, varK_lk, lookK_fz, lookK_ow, lookK_lk, frzK_fz, frzK_ow, frzK_lk, argK_fz, argK_owt, argK_owf, argK_lkt, argK_lkf, mutK_ow', mutO_ow, putK'_ow, getK_ow, fzO_fz, augK_fz, intD_int, retK_fz, retK_ow, retK_nm, retO_fz, retO_ow, retO_lk, setR_fz, setR_ow, setR_nm, setK_fz, setK_ow, setK_lk, tru_b, tru_n, tru_l, tru_t, key_i, key_s, gIAdd_ii, gISub_ii, gPow_18, gN_ok, gsN_ok, gT_ok, setQs_nil, setQs_fz, setQs_ow, outP_t, outP_f, outP_n, wkO_fz, wkO_ow, wkO_lk, wk_fz, wk_ow, wk_nm, items_l, items_t, unl_none, unl_some, unlK_lk, callK_R, callR_fz, callR_ow, rest_nil, rest_cons, restK_some, wipe_nil, wipe_cons, gAdd_ii, gSub_ii, gMul_l, gMul_r, gDiv_ii, gMod_ii, gNeg_i, gEq_ii, gEq_ss, gEq_bb, gNe_ii, gNe_ss, gLt_ii, gLe_ii, gGt_ii, gGe_ii, gIx_l0, gIx_t0, gIx_l1, gIx_t1, gIx_l2, gIx_t2, gIx_t3, gLen_l, gLen_t, gLen_d, gAbs_i, gAppend_l, gExtend_l, gInt_i, gTuple_l, gTuple_t, gList_l, gList_t, gMax_ii, gMin_ii, gSum_l, gIs_none, isLst, isT, isOw, List.getElem?_cons_zero, List.getElem?_cons_succ, List.length_cons, List.length_nil, List.cons_append, List.nil_append, List.replicate, List.set_cons_zero, List.set_cons_succ, true_and, and_true, if_true, List.map_cons, List.map_nil, Nat.reduceAdd, Nat.reduceSub, Nat.reduceLT, Nat.reduceLeDiff, List.length_set, List.length_map, List.length_append, List.length_range, reduceIte, reduceDIte, Bool.false_eq_true, slotOf, wb, Option.getD_some, nmOk, heldR, List.all_cons, List.all_nil, List.any_cons, List.any_nil, isNm, Bool.and_true, Bool.true_and, Bool.false_and, Bool.and_false, Bool.not_false, Bool.not_true, Bool.or_false, e, alike_ok n ds[k] (hd _ (List.getElem_mem hk))]
    · simp (disch := first | omega | (simp only [List.length_map, List.length_append, List.length_cons, List.length_nil, List.length_set, List.length_range, sizeLine_eq]; done) | (simp only [List.length_map, List.length_append, List.length_cons, List.length_nil, List.length_set, List.length_range, sizeLine_eq]; omega)) only [↓wM_bd, ↓wM_pr, ↓wM_opt, ↓wM_C, ↓wM_var, ↓wM_look_fz, ↓wM_look_ow, ↓wM_look_nm, ↓wM_frz_fz, ↓wM_frz_ow, ↓wM_frz_nm, ↓wM_op2, ↓wM_op2T, ↓wO_gB, ↓wM_op1, ↓wM_nil, ↓wM_cons, ↓wM_frzA0, ↓wM_frzA, ↓wM_lookA0, ↓wM_lookA, ↓wM_tup, ↓wM_lst, ↓wM_B, ↓wM_isi, ↓wM_me, ↓wM_sl, ↓wM_noP, ↓wM_part, ↓wM_key, ↓wM_call, ↓wM_argSA0, ↓wM_argSA, ↓wM_argS_fz, ↓wM_argS_ow, ↓wM_argS_nm, ↓wM_mut, ↓wM_yes, ↓wM_rng1, ↓wM_rng2, ↓wM_wkV, ↓wM_wkT, ↓wM_wkL, ↓wM_wk2, ↓wM_wkB, ↓wM_wkC, ↓wM_not, ↓wM_tru, ↓wM_and, ↓wM_or, ↓wM_andV, ↓wM_orV, ↓wM_notV, ↓wM_ifE, ↓wM_chain, ↓wM_chainT, ↓wM_dispN, ↓wM_pairs0, ↓wM_pairs, ↓wM_new, ↓wO_gsC, ↓wS_seq, ↓wS_pass, ↓wS_brk, ↓wS_cnt, ↓wS_ret, ↓wS_drop, ↓wS_if, ↓wS_set, ↓wS_asg, ↓wS_par, ↓wS_put, ↓wS_augS, ↓wS_aug, ↓wM_run', wO_some, varK_fz, varK_ow, varK_lk, lookK_fz, lookK_ow, lookK_lk, frzK_fz, frzK_ow, frzK_lk, argK_fz, argK_owt, argK_owf, argK_lkt, argK_lkf, mutK_ow', mutO_ow, putK'_ow, getK_ow, fzO_fz, augK_fz, intD_int, retK_fz, retK_ow, retK_nm, retO_fz, retO_ow, retO_lk, setR_fz, setR_ow, setR_nm, setK_fz, setK_ow, setK_lk, tru_b, tru_n, tru_l, tru_t, key_i, key_s, gIAdd_ii, gISub_ii, gPow_18, gN_ok, gsN_ok, gT_ok, setQs_nil, setQs_fz, setQs_ow, outP_t, outP_f, outP_n, wkO_fz, wkO_ow, wkO_lk, wk_fz, wk_ow, wk_nm, items_l, items_t, unl_none, unl_some, unlK_lk, callK_R, callR_fz, callR_ow, rest_nil, rest_cons, restK_some, wipe_nil, wipe_cons, gAdd_ii, gSub_ii, gMul_l, gMul_r, gDiv_ii, gMod_ii, gNeg_i, gEq_ii, gEq_ss, gEq_bb, gNe_ii, gNe_ss, gLt_ii, gLe_ii, gGt_ii, gGe_ii, gIx_l0, gIx_t0, gIx_l1, gIx_t1, gIx_l2, gIx_t2, gIx_t3, gLen_l, gLen_t, gLen_d, gAbs_i, gAppend_l, gExtend_l, gInt_i, gTuple_l, gTuple_t, gList_l, gList_t, gMax_ii, gMin_ii, gSum_l, gIs_none, isLst, isT, isOw, List.getElem?_cons_zero, List.getElem?_cons_succ, List.length_cons, List.length_nil, List.cons_append, List.nil_append, List.replicate, List.set_cons_zero, List.set_cons_succ, true_and, and_true, if_true, List.map_cons, List.map_nil, Nat.reduceAdd, Nat.reduceSub, Nat.reduceLT, Nat.reduceLeDiff, List.length_set, List.length_map, List.length_append, List.length_range, reduceIte, reduceDIte, Bool.false_eq_true, slotOf, wb, Option.getD_some, nmOk, heldR, List.all_cons, List.all_nil, List.any_cons, List.any_nil, isNm, Bool.and_true, Bool.true_and, Bool.false_and, Bool.and_false, Bool.not_false, Bool.not_true, Bool.or_false, filter_no, gEq_nil]
end DL
namespace DL
open PySem L2
theorem dataLe_D (x y : D) : PySem.W.dataLe false id x y = !PySem.W.dataLt y x := by rfl
theorem next_ok' {ds : List Int} {i : Nat} {m : Int} (hm : 0 < m) : nextF [.ow (Wd ds i), .fz (.int m)] = .ok (.fz (.int (nx ds i m))) [.ow (Wd ds (i + 1 : Nat)), .fz (.int m)] := next_ok ds i m hm
theorem nx_bd (ds : List Int) (i : Nat) (m : Int) (h : 0 < m) : 0 ≤ nx ds i m ∧ nx ds i m < m := ⟨nx_nonneg h, nx_lt h⟩
/-- data that may be compared -/
def fine (n : Nat) (d : D) : Prop := d.canLay0 = true ∧ d.depth ≤ n
theorem fine_all {n : Nat} {ds : List D} (h : ∀ d ∈ ds, fine n d) : PyData.canLayAll0 ds = true ∧ PyData.depthAll ds ≤ n := by
  induction ds with
  | nil => exact ⟨by simp [PyData.canLayAll0], by simp [PyData.depthAll]⟩
  | cons x xs ih =>
    obtain ⟨a, b⟩ := ih fun d hd => h d (by simp [hd])
    obtain ⟨c, e⟩ := h x (by simp)
    exact ⟨by simp [PyData.canLayAll0, a, c], by simp only [PyData.depthAll]; omega⟩
theorem fine_l {n : Nat} {ds : List D} (h : ∀ d ∈ ds, fine n d) : fine (n + 1) (.list ds) := by
  obtain ⟨a, b⟩ := fine_all h
  exact ⟨by simpa [PyData.canLay0] using a, by simpa [PyData.depth] using b⟩
theorem fine_s {n : Nat} {x : Str} (h : PyData.strOk x = true) : fine n (.str x) := ⟨by simpa [PyData.canLay0] using h, by simp [PyData.depth]⟩
theorem fine_le {n m : Nat} {d : D} (h : fine n d) (hm : n ≤ m) : fine m d := ⟨h.1, Nat.le_trans h.2 hm⟩
theorem fine_sh {n : Nat} {d : D} (h : fine n d) (hn : n ≤ 64) : SeqAt.shaped d = true := by
  unfold SeqAt.shaped
  rw [h.1, Bool.true_and, decide_eq_true_eq]; exact Nat.le_trans h.2 hn
theorem eqv_s {a b : Str} : PyData.eqv (.str a) (.str b) = decide (a = b) := by
  simp only [PyData.eqv]
  by_cases h : a = b
  · subst h; simp
  · rw [decide_eq_false h]; simpa using h
theorem eqv_l {a b : List D} : PyData.eqv (.list a) (.list b) = PyData.eqvAll a b := by simp only [PyData.eqv]
theorem eqv_c {x y : D} {a b : List D} : PyData.eqvAll (x :: a) (y :: b) = (PyData.eqv x y && PyData.eqvAll a b) := by simp only [PyData.eqvAll]
theorem eqv_0 : PyData.eqvAll [] [] = true := by simp only [PyData.eqvAll]
theorem eqv_10 {x : D} {a : List D} : PyData.eqvAll (x :: a) [] = false := by simp only [PyData.eqvAll]
theorem eqv_01 {x : D} {a : List D} : PyData.eqvAll [] (x :: a) = false := by simp only [PyData.eqvAll]
theorem gEq_of {x y : D} (hx : SeqAt.shaped x = true) (hy : SeqAt.shaped y = true) : gEq x y = some (PyData.eqv x y) := by
  unfold gEq
  split
  · simp only [PyData.eqv]
  · simp only [PyData.eqv]
  · simp only [PyData.eqv]
  · rw [hx, hy]; rfl
end DL
namespace DL
open PySem PySem.Spec PyProof.Rows L2
/-! ### list(range(..)), tuple(range(..)) -/
def int2 : D → D → Option (Int × Int)
  | .int n, .int m => some (n, m)
  | _, _ => none
def dRgA2 (f g : M Rs) : M (Int × Int) := bd f fun r => bd g fun r2 => bd (look r) fun d => bd (look r2) fun d2 => opt (int2 d d2)
def rgD (a b : Int) : List D := (List.range (b - a).toNat).map fun k => .int (a + (k : Nat))
def rgOk (p : Int × Int) : Bool := decide (0 ≤ p.1 ∧ p.2 ≤ 16777216 ∧ p.1 ≤ 16777216 ∧ 0 ≤ p.2)
def lRg (p : Int × Int) : Option Rs := if rgOk p = true then some (.ow (.list (rgD p.1 p.2))) else none
def dLRg (w : M (Int × Int)) : M Rs := bd w fun p => opt (lRg p)
def tSemP (K : PySem.W.Frag) (f : M (Int × Int)) : L2.St → Hp → (Int → Int → Hp → Prop) → Prop := fun σ H Q => ∃ F ρ r ρ', Sta K F H σ ρ ∧ f ρ = .ok r ρ' ∧ ∀ F' H', Ext K F H σ ρ F' H' σ ρ' → Q r.1 r.2 H'
theorem prgWeak {X : Cx} {e : Expr} {t t' : L2.St → Hp → (Int → Int → Hp → Prop) → Prop} (h : PRg X e t) (w : ∀ σ H Q, t' σ H Q → t σ H Q) : PRg X e t' := fun pins s σ H Q I q => h pins s σ H Q I (w σ H Q q)
section
variable {K : PySem.W.Frag}
theorem sem_rga2 {f g : M Rs} : ∀ σ H Q, tSemP K (dRgA2 f g) σ H Q → tRg2 (tSem K f) (tSem K g) σ H Q := fun σ H Q ⟨F, ρ, r, ρ', s, e, k⟩ => by
  obtain ⟨ra, ρ1, e1, e⟩ := bd_ok e
  obtain ⟨rb, ρ2, e2, e⟩ := bd_ok e
  obtain ⟨da, ρ3, e3, e⟩ := bd_ok e
  obtain ⟨db, ρ4, e4, e⟩ := bd_ok e
  obtain ⟨eg, e5⟩ := opt_ok e
  refine ⟨F, ρ, ra, ρ1, s, e1, fun F1 H1 x x1 r1 => ⟨F1, ρ1, rb, ρ2, x1.st, e2, fun F2 H2 y x2 r2 => ?_⟩⟩
  have r1' := r1.ext x2
  obtain ⟨e3', w1⟩ := look_ok x2.st r1' e3
  subst e3'
  obtain ⟨e4', w2⟩ := look_ok x2.st r2 e4
  subst e4'; subst e5
  unfold int2 at eg
  split at eg
  · cases eg; exact ⟨_, _, w1.int, w2.int, k F2 H2 (x1.trans x2)⟩
  · cases eg
theorem rpa_rg {F : Hp} (a b : Int) : RpA K F (rgV a b) (rgD a b) := by
  unfold rgV rgD
  induction List.range (b - a).toNat with
  | nil => exact .nil
  | cons x xs ih => exact .cons (.int _) ih
theorem rgOk_ok {a b : Int} (h : rgOk (a, b) = true) : RgOk a b := by
  unfold rgOk at h
  rw [decide_eq_true_eq] at h
  exact RgOk.of_le h.1 h.2.1 h.2.2.1 h.2.2.2
theorem sem_lrg {w : M (Int × Int)} : ∀ σ H Q, tSem K (dLRg w) σ H Q → tLstRg (tSemP K w) σ H Q := fun σ H Q ⟨F, ρ, r, ρ', s, e, k⟩ => by
  obtain ⟨p, ρ1, e1, e⟩ := bd_ok e
  obtain ⟨eg, e5⟩ := opt_ok e
  subst e5
  unfold lRg at eg
  split at eg
  case isFalse => cases eg
  case isTrue hk =>
    cases eg
    refine ⟨F, ρ, p, ρ', s, e1, fun F1 H1 x1 => ⟨rgOk_ok hk, fun q hq => ?_⟩⟩
    have hN : NewR K F1 H1 (.ow (.list (rgD p.1 p.2))) Q := fun F3 H3 v g hr => k F3 H3 v (x1.trans (x1.st.grow g)) (x1.st.res g hr fun a z => x1.back z)
    exact hN.lst x1.st.le (rpa_rg _ _) hq
variable {X : Cx} {a b : Expr} {fa fb : M Rs} {p pos : Pos} {e : Expr} {w : M (Int × Int)}
theorem rga2 (hg : Gl X "range") (hm : X.mg "range" = none) (ha : PE X a (tSem X.K fa)) (hb : PE X b (tSem X.K fb)) (na : starEach [a, b] X.env = (false, eval a X.env) :: starEach [b] X.env := by rfl) (nb : starEach [b] X.env = (false, eval b X.env) :: starEach [] X.env := by rfl) (hp : (backTo pos (starEach [b] X.env)).any (·.1) = false := by rfl) : PRg X (.Call (.Name "range" p) [a, b] [] pos) (tSemP X.K (dRgA2 fa fb)) := prgWeak (prg_2 hg hm ha hb na nb hp) sem_rga2
theorem elrg (hc : X.calm = true) (hg : Gl X "list") (hm : X.mg "list" = none) (he : PRg X e (tSemP X.K w)) (na : starEach [e] X.env = (false, eval e X.env) :: starEach [] X.env := by rfl) : PE X (.Call (.Name "list" p) [e] [] pos) (tSem X.K (dLRg w)) := peWeak (pe_listRg hc hg hm he na) sem_lrg
end
section
variable {ρ : List Sl}
theorem lRg_ok {a b : Int} (h1 : 0 ≤ a) (h2 : b ≤ 16777216) (h3 : a ≤ 16777216) (h4 : 0 ≤ b) : lRg (a, b) = some (.ow (.list (rgD a b))) := if_pos (decide_eq_true ⟨h1, h2, h3, h4⟩)
end
end DL
namespace DL
open PySem PySem.Spec PyProof.Rows L2
/-! ### the end: the script as a law gets it -/
def notLst (v : Value) : Bool := match v with
  | .type s => !(s == "list")
  | _ => true
def noLists (K : PySem.W.Frag) : Bool := K.all fun p => notLst p.2.cls
theorem noLists_ok : ∀ {K : PySem.W.Frag} {a : Addr} {o : Obj}, noLists K = true → K.lookup a = some o → o.cls ≠ .type "list"
  | [], _, _, _, h => nomatch h
  | (b, p) :: K, a, o, hn, h => fun hc => by
    unfold noLists at hn
    rw [List.all_cons, Bool.and_eq_true] at hn
    rw [List.lookup_cons] at h
    split at h
    · cases h
      have := hn.1
      simp only [hc] at this
      exact absurd this (by decide)
    · exact noLists_ok (K := K) hn.2 h hc
def spL : Sp := fun vs H Q _ => ∃ (a : Addr) (ns : List Int), vs = [.ref a] ∧ Rd H a (.lst (ns.map V.int)) ∧ ns.length ≤ 63 ∧ ∀ H', Q (.bl true) H'
theorem spL_of {K : PySem.W.Frag} {H : Hp} {a : Addr} {ns : List Int} {E : XK} (hS : SqL K H a (ns.map V.int)) (hl : ns.length ≤ 63) (hN : noLists K = true) : spL [.ref a] H (fun v _ => v = .bl true) E := by
  refine ⟨a, ns, rfl, ?_, hl, fun _ => rfl⟩
  rcases hS with h | ⟨o, its, n, hk, hc, _⟩
  · exact h
  · exact absurd hc (noLists_ok hN hk)
/-- what a law asks of its own def -/
def LawOk (sem : M Rs) : Prop := ∀ script : List Int, script.length ≤ 63 → ∃ ρ', sem [.fz (.list (script.map .int))] = .ok (.fz (.bool true)) ρ'
theorem spL_imp {K : PySem.W.Frag} {sem : M Rs} (h : LawOk sem) : ∀ vs H Q E, spL vs H Q E → spD K 1 sem vs H Q E := fun vs H Q E ⟨a, ns, e, hr, hl, q⟩ => by
  subst e
  obtain ⟨ρ', hs⟩ := h ns hl
  have hF : Rd (fun b => if b = a then H a else none) a (.lst (ns.map V.int)) := by
    rcases hr with z | ⟨o, z⟩
    · exact .inl ((if_pos rfl).trans z)
    · exact .inr ⟨o, (if_pos rfl).trans z⟩
  have no : ∀ i b, ¬ HdAt [some (V.ref a)] [Sl.fz (.list (ns.map .int))] i b := fun i b z => by
    rcases z with ⟨_, d, z⟩ | ⟨_, d, z⟩ <;>
    · match i, z with
      | 0, z => cases z
      | i + 1, z => cases z
  refine ⟨rfl, fun b => if b = a then H a else none, _, _, ρ', ⟨fun b o z => ?_, rfl, fun i s z => ?_, fun i j b z _ => absurd z (no i b)⟩, hs, fun F' H' v x r => ?_⟩
  · by_cases hb : b = a
    · subst hb; exact (if_pos rfl).symm.trans z
    · exact nomatch (if_neg hb).symm.trans z
  · match i, z with
    | 0, z =>
      cases z
      exact ⟨.ref a, rfl, .lst hF (RpA.of_ints ns)⟩
    | i + 1, z => cases z
  · have r : Rp K F' v (.bool true) := r
    cases r
    exact q H'
theorem law_end {P : Program} {w : World} {K : PySem.W.Frag} {mg : Str → Option Value} {k : Nat} {fa : Addr} {sem : M Rs} (h : LawOk sem)
    (q : ∃ fd : FuncData, (∀ (s : Shared) (u : Value), BindsTo s fd ⟨[u], []⟩ [("script", u)]) ∧ ∀ base : Heap, K.In base → base.Ns mainGlobals mg → FnOk P w K mg base CX0 k fa fd ["script"] (spD K 1 sem)) :
    ∃ fd : FuncData, (∀ (s : Shared) (u : Value), BindsTo s fd ⟨[u], []⟩ [("script", u)]) ∧ ∀ base : Heap, K.In base → base.Ns mainGlobals mg → FnOk P w K mg base CX0 k fa fd ["script"] spL := by
  obtain ⟨fd, b, F⟩ := q
  exact ⟨fd, b, fun base h1 h2 => (F base h1 h2).imp (spL_imp h)⟩
end DL
namespace DL
open PySem PySem.Spec PyProof.Rows L2
/-! ### a tuple the other way round -/
/-! ### range(a, b, -1) -/
end DL
namespace DL
open PySem PySem.Spec PyProof.Rows L2
/-! ### zip of two, each a list or a tuple -/
def ItX (t : Bool) (h : Heap) (it a : Addr) (k : Nat) : Prop := if t = true then h.IsTupleIter it a k else h.IsListIter it a k
theorem ItX.at {t : Bool} {h h' : Heap} {it a : Addr} {k : Nat} (x : ItX t h it a k) (e : ∀ o, h.get? it = some o → h'.get? it = some o) : ItX t h' it a k := by
  cases t
  · exact Heap.IsListIter.at x e
  · exact Heap.IsTupleIter.at x e
end DL
namespace DL
open PySem PySem.Spec PyProof.Rows L2
end DL
namespace DL
open PySem PySem.Spec PyProof.Rows L2
end DL
namespace DL
open PySem L2
end DL
namespace DL
open PySem PySem.Spec PyProof.Rows L2
/-! ### set(..) of a list of ints, sorted -/
end DL
namespace DL
open PySem PySem.Spec PyProof.Rows L2
/-! ### dict(..) of a list of pairs, of a dict -/
end DL
-- 26
namespace DL
open PySem L2
/-! ### the look at two values by a list of what waits -/
end DL
-- 26
namespace DL
open PySem L2
/-! ### encodings that tell their values apart -/
def EqE {α : Type} [DecidableEq α] (enc : α → D) : Prop := ∀ a b, PyData.eqv (enc a) (enc b) = decide (a = b)
theorem eqvAll_map {α : Type} [DecidableEq α] {enc : α → D} (h : EqE enc) : ∀ (xs ys : List α), PyData.eqvAll (xs.map enc) (ys.map enc) = decide (xs = ys)
  | [], [] => by rw [List.map_nil, eqv_0]; rfl
  | [], y :: ys => by rw [List.map_nil, List.map_cons, eqv_01]; rfl
  | x :: xs, [] => by rw [List.map_nil, List.map_cons, eqv_10]; rfl
  | x :: xs, y :: ys => by
    rw [List.map_cons, List.map_cons, eqv_c, h, eqvAll_map h xs ys]
    by_cases e : x = y
    · subst e
      by_cases e2 : xs = ys
      · subst e2; simp
      · simp [e2]
    · simp [e]
theorem eqE_lst {α : Type} [DecidableEq α] {enc : α → D} (h : EqE enc) : EqE (fun xs : List α => PyData.list (xs.map enc)) := fun a b => by rw [eqv_l, eqvAll_map h]
section
variable {α : Type} [DecidableEq α] {enc : α → D} {n : Nat}
theorem gEq_e (h : EqE enc) (hn : n ≤ 64) {a b : α} (ha : fine n (enc a)) (hb : fine n (enc b)) : gEq (enc a) (enc b) = some (decide (a = b)) := by
  rw [gEq_of (fine_sh ha hn) (fine_sh hb hn), h]
end
theorem fine_lm {α : Type} {enc : α → D} {n : Nat} {L : List α} (h : ∀ x ∈ L, fine n (enc x)) : fine (n + 1) (.list (L.map enc)) := fine_l fun d hd => by obtain ⟨x, hx, rfl⟩ := List.mem_map.mp hd; exact h x hx
/-! ### dicts of pairs whose keys differ -/
end DL
namespace DL
open PySem PySem.Spec PyProof.Rows L2
/-! ### a dict is locked while it is walked -/
end DL
namespace DL
open PySem PySem.Spec PyProof.Rows L2
end DL
namespace DL
open PySem PySem.Spec PyProof.Rows L2
end DL
namespace DL
open PySem PySem.Spec PyProof.Rows L2
/-! ### sorted(..) of a list, a tuple, a dict's keys -/
end DL
namespace DL
open PySem PySem.Spec PyProof.Rows L2
/-! ### the rules of reckoning -/
end DL
namespace DL
open PySem PySem.Spec PyProof.Rows L2
/-! ### sets of ints and texts that can be walked -/
def keyV (v : Value) : Key := match v with
  | .int k _ => .inl k
  | .str x _ => .inr x
  | _ => .inl 0
def GoodK (P : Program) (w : World) (e : Int × Value) : Prop := ∃ k, keyIs k e.2 = true ∧ e.1 = (mixKind P w).hash k
def kOf (e : Int × Value) : Key := keyV e.2
/-- the set at a: S its members, n their number; its table rises and can be walked -/
def SetRK (P : Program) (w : World) (h : Heap) (a : Addr) (S : Key → Bool) (n : Nat) : Prop :=
  ∃ o es ep t, h.get? a = some o ∧ o.ExactSet ∧ o.data = .set es ep t ∧ (∀ e ∈ es.toList, GoodK P w e) ∧ (es.toList.map kOf).Nodup ∧ (∀ k, S k = true ↔ k ∈ es.toList.map kOf) ∧
    es.size < scanBound ∧ t.fits es.size = true ∧ es.size = n ∧ Ris t.place.toList ∧ (w.params.followText "set-order" = true ∨ t.led = true)
section
variable {P : Program} {w : World} {h h' : Heap} {a : Addr} {S : Key → Bool} {n : Nat}
theorem SetRK.at (R : SetRK P w h a S n) (k : ∀ o, h.get? a = some o → h'.get? a = some o) : SetRK P w h' a S n := by
  obtain ⟨o, es, ep, t, ho, r⟩ := R
  exact ⟨o, es, ep, t, k o ho, r⟩
end
end DL
namespace DL
open PySem PySem.Spec PyProof.Rows L2
/-! ### the members, each once, in order -/
end DL
-- 26 35
namespace DL
open PySem L2
/-! ### dicts by their texts and a function -/
end DL
/-! DL39: a, b = x, y where names are shared with inner functions: through a pair -/
namespace DL
open PySem PySem.Spec PyProof.Rows L2
section
variable {K : PySem.W.Frag} {F H F' H' : Hp} {σ σ' : SS} {ρ ρ' : List Sl} {P : Nat → Prop}
theorem sem_parU {i j : Nat} {f : M (List Rs)} (hi : ¬ P i) (hj : ¬ P j) : ∀ D σ H, tSemS K P (dPar [i, j] f) D σ H → tAsg (tTup (tSemA K f)) (gTup K 2 (gCons (gName i) (gCons (gName j) gNil))) D σ H := fun D σ H ⟨F, ρ, s, h⟩ => by
  unfold dPar at h
  cases e : bd f (argSA ([i, j].map fun _ => false)) ρ with
  | bad => rw [e] at h; exact h.elim
  | ok rs ρ1 =>
    rw [e] at h
    cases e2 : setQs [i, j] rs ρ1 with
    | none => simp only [e2] at h; exact h.elim
    | some ρ2 =>
      simp only [e2] at h
      obtain ⟨r, ρ3, e3, e4⟩ := bd_ok e
      refine ⟨F, ρ, r, ρ3, s, e3, fun F' H' vs x q => ?_⟩
      obtain ⟨F2, x2, q2, _⟩ := argSA_ok x q e4
      obtain ⟨l, x3, p⟩ := setQs_ok (P := P) (fun k hk => by
        rcases List.mem_cons.mp hk with z | z
        · rw [z]; exact hi
        · rw [List.mem_singleton.mp z]; exact hj) x2 q2 e2
      match vs, l with
      | [v, w], _ =>
        refine ⟨by show 2 ≤ sizeLine; decide, fun t ht => ⟨t, [v, w], rfl, SqT.of upd_same, rfl, v, [w], rfl, w, [], rfl, rfl, ?_⟩⟩
        have hf : F2 t = none := by
          cases hz : F2 t with
          | none => rfl
          | some o => have := x3.st.le t o hz; rw [ht] at this; cases this
        have hn : ∀ k, ¬ HdAt _ ρ2 k t := fun k hk => by
          obtain ⟨_, d, ho⟩ := x3.st.held hk
          exact ho.ne ht
        exact h F2 _ _ (x3.updFree (x3.back ht) hf hn) p
theorem sparU {X : Cx} {i j : Nat} {x y : Str} {a b : Expr} {fa : M (List Rs)} {px py pt pos : Pos} {kt k2 pt2} (h1 : ¬ P i) (h2 : ¬ P j) (hc : X.calm = true) (hN : X.N.Nodup) (hi : X.N[i]? = some x) (hj : X.N[j]? = some y)
    (hx : Loc X.env.scope x) (hy : Loc X.env.scope y) (ha : PA X [a, b] (tSemA X.K fa))
    (hw : swappedStores [.Tuple [.Name x px, .Name y py] kt pt] (.Tuple [a, b] k2 pt2) X.env = pure none := by rfl)
    (hs : swapsWithSole [.Tuple [.Name x px, .Name y py] kt pt] (.Tuple [a, b] k2 pt2) pos.line X.env = pure false := by rfl)
    (hfx : X.fn x = true ∨ X.env.scope.names.lookup x = some .local := by first | exact .inl rfl | exact .inr rfl | assumption) (hfy : X.fn y = true ∨ X.env.scope.names.lookup y = some .local := by first | exact .inl rfl | exact .inr rfl | assumption) :
    PS X (.Assign [.Tuple [.Name x px, .Name y py] kt pt] (.Tuple [a, b] k2 pt2) pos) (tSemS X.K P (dPar [i, j] fa)) :=
  psWeak (ps_asg (pe_tup ha) (pg_tup hc (pgs_cons (pg_name hN hi hx hfx) (pgs_cons (pg_name hN hj hy hfy) pgs_nil))) hs hw) (sem_parU h1 h2)
end
end DL
/-! DL40: list(dict) -/
namespace DL
open PySem PySem.Spec PyProof.Rows L2
end DL
/-! DL41: set(tuple of keys), sorted(set(..)) of texts in a list or a tuple -/
namespace DL
open PySem PySem.Spec PyProof.Rows L2
end DL
/-! DL42: sorted(d.items()), list(d.items()) -/
namespace DL
open PySem PySem.Spec PyProof.Rows L2
end DL
/-! DL43: dict.get -/
namespace DL
open PySem PySem.Spec PyProof.Rows L2
end DL
/-! DL44: list(d.items()) -/
namespace DL
open PySem PySem.Spec PyProof.Rows L2
end DL
/-! DL45: == of lists of unlike lengths and of tuples with a plain front, whatever they hold -/
namespace DL
open PySem PySem.Spec PyProof.Rows L2
open PySem.SeqAt (EqAt RcAt RcNeAt)
end DL
/-! DL46: == and != of data that are the same, dicts within -/
namespace PySem.SeqAt
open AutoSeq1 (wpAny_loadPart')
open MeetsSeq MeetsSeq2 MeetsSeq3 SeqRoads2
end PySem.SeqAt
namespace DL
open PySem PySem.Spec PyProof.Rows L2
open PySem.SeqAt (EqIn EqAt)
open PySem.W (EqTree eq_tuplesT eq_listsT eq_dictsT)
end DL
/-! DL47: min and max of a list of tuples (of data alike) -/
namespace DL
open PySem PySem.Spec PyProof.Rows L2 PySem.W
section
variable {K : PySem.W.Frag} {F F' H H' : Hp} {X : Cx} {σ : SS} {pins : List (Addr × Obj)} {s : Shared}
def gMinX (l : List D) : Option Rs := match gMin l with
  | some r => some r
  | none => match l with
    | [.list (x :: xs)] => if sortOk (x :: xs) = true then some (.fz (minD x xs)) else none
    | _ => none
theorem sort_ne {ds : List D} (ok : sortOk ds = true) : (∀ d ∈ ds, ∀ e ∈ ds, alike d e = true) ∧ (∀ d ∈ ds, d ≠ .none) ∧ (∀ d ∈ ds, noD d = true) ∧ ∀ d ∈ ds, d.depth ≤ 60 := by
  unfold sortOk at ok
  simp only [Bool.and_eq_true, Bool.or_eq_true, decide_eq_true_eq, List.all_eq_true] at ok
  obtain ⟨⟨⟨⟨h1, h2⟩, h3⟩, h4⟩, h5⟩ := ok
  refine ⟨fun d hd e he => h1 d hd e he, fun d hd z => ?_, h2, h4⟩
  subst z
  rcases h3 with h3 | h3
  · exact absurd (h3 _ hd) (by simp)
  · exact absurd (h3 _ hd) (by simp)
theorem vals_get : ∀ {vs : List V} {us : List Value}, Vals vs us → ∀ (i : Nat) (u : Value), us[i]? = some u → ∃ v, vs[i]? = some v ∧ RelV v u
  | _, _, .nil, i, u, h => by simp at h
  | _, _, .cons r t, 0, u, h => by simp at h; subst h; exact ⟨_, rfl, r⟩
  | _, _, .cons r t, i + 1, u, h => by
    rw [List.getElem?_cons_succ] at h
    obtain ⟨v, e, q⟩ := vals_get t i u h
    exact ⟨v, by rw [List.getElem?_cons_succ]; exact e, q⟩
theorem rpA_get : ∀ {vs : List V} {ds : List D}, RpA K F vs ds → ∀ (i : Nat) (v : V), vs[i]? = some v → i < ds.length ∧ Rp K F v (ds.getD i .none)
  | _, _, .nil, i, v, h => by simp at h
  | _, _, .cons r t, 0, v, h => by simp at h; subst h; exact ⟨by simp, r⟩
  | _, _, .cons r t, i + 1, v, h => by
    rw [List.getElem?_cons_succ] at h
    obtain ⟨e, q⟩ := rpA_get t i v h
    exact ⟨by simp; omega, by simpa using q⟩
theorem getD_mem_ {ds : List D} {i : Nat} (h : i < ds.length) : ds.getD i .none ∈ ds := by
  rw [List.getD_eq_getElem?_getD, List.getElem?_eq_getElem h]; exact List.getElem_mem h
theorem mm_at (I : Inv X pins σ H s) (sm : Same F H) {vs : List V} {us : List Value} {ds : List D} (rv : Vals vs us) (ra : RpA X.K F vs ds) (nd : ∀ d ∈ ds, noD d = true) (i : Nat) (u : Value) (h : us.toArray[i]? = some u) :
    ∃ v as, RelV v u ∧ Rp X.K F v (ds.getD i .none) ∧ ds.getD i .none ∈ ds ∧ Reads s.heap u (ds.getD i .none) as := by
  rw [List.getElem?_toArray] at h
  obtain ⟨v, e, q⟩ := vals_get rv i u h
  obtain ⟨hi, r⟩ := rpA_get ra i v e
  have hm := getD_mem_ hi
  obtain ⟨as, z⟩ := Dp.reads I _ v u (r.dp sm (nd _ hm)) q
  exact ⟨v, as, q, r, hm, z⟩
theorem mm_lt (hu : X.A.units + 64 < cLine) (I : Inv X pins σ H s) (sm : Same F H) {vs : List V} {us : List Value} {ds : List D} (rv : Vals vs us) (ra : RpA X.K F vs ds) (ok : sortOk ds = true) :
    CmpIn X.prog X.w X.A.in1 .Lt s.heap (fun i v => us.toArray[i]? = some v) (fun i j => dataLt (ds.getD i .none) (ds.getD j .none)) := fun i j vi vj s' Q E hk hi hj hq => by
  obtain ⟨h1, h2, h3, h4⟩ := sort_ne ok
  obtain ⟨v1, as1, _, _, m1, r1⟩ := mm_at I sm rv ra h3 i vi hi
  obtain ⟨v2, as2, _, _, m2, r2⟩ := mm_at I sm rv ra h3 j vj hj
  refine rcLt_alike _ _ X.A.in1 s' vi vj _ _ (reads_keeps hk r1) (reads_keeps hk r2) (h1 _ m1 _ m2) (h2 _ m1) ?_ X.prog X.w E Q hq
  have := Nat.min_le_left ((ds.getD i .none).depth) ((ds.getD j .none).depth)
  have := h4 _ m1
  show X.A.units + 1 + _ < _
  omega
theorem cMinX (hc : X.calm = true) (hu : X.A.units + 64 < cLine) : CallR X (.builtin "min") (rGN X.K gMinX) := by
  intro pins s σ H xs us Q I r ⟨F, ds, res, sm, hx, e, q⟩
  unfold gMinX at e
  split at e
  · rename_i r0 e0
    exact cMin hc pins s σ H xs us Q I r ⟨F, ds, res, sm, hx, e0.trans e, q⟩
  · split at e
    · split at e
      case isFalse => cases e
      case isTrue ok =>
        rename_i y ys _
        cases e
        obtain ⟨x, rfl, hw⟩ := hx.one
        obtain ⟨a, vs, ev, h1, r1⟩ := hw.list sm
        subst ev
        obtain ⟨u, rfl, rx⟩ := vals1 r
        cases rx
        obtain ⟨its, rv, hl, _⟩ := I.list (.inl h1 : SqL X.K H a vs)
        have hn : its.toArray.size = ys.length + 1 := by
          have e1 := rv.length
          have e2 := r1.length
          rw [List.length_cons] at e2
          rw [List.size_toArray]; omega
        refine call_min_walkH (iter_listW (A := X.A.in1) (I.ok.hd hc) hl.isList fun s₂ e W st hfp hw hk => ?_)
        refine ⟨_, _, _, _, _, _, _, s.heap, _, rfl, W, st, hfp, by omega, hw, hk, mm_lt hu I sm rv r1 ok, fun v s' hP m => ?_⟩
        obtain ⟨h', tk, rfl, hk'⟩ := moved_old e rfl m
        obtain ⟨w, as, rl, rp, _, _⟩ := mm_at I sm rv r1 (sort_ne ok).2.2.1 _ v hP
        have e1 : its.toArray.size - 1 = ys.length := by omega
        have e2 := (argBest_fold dataLt PyData.none y ys ys.length (Nat.le_refl _)).2
        rw [List.take_length] at e2
        rw [e1, e2] at rp
        exact ⟨w, H, I.kept hk', rl, q.same sm rp⟩
    · cases e
end
end DL
/-! TL: typed readings of defs over DL: modes of slots, values told by Lean functions -/
namespace TL
open PySem L2 DL
inductive Ms where
  | any | fz (d : D) | ow (d : D) | lk (d : D) | rd (d : D)
def Mo : Ms → Sl → Prop
  | .any, _ => True
  | .fz d, s => s = .fz d
  | .ow d, s => s = .ow d
  | .lk d, s => s = .lk d
  | .rd d, s => s = .fz d ∨ s = .ow d ∨ s = .lk d
def Ec : List Ms → List Sl → Prop
  | [], [] => True
  | m :: E, s :: ρ => Mo m s ∧ Ec E ρ
  | _, _ => False
theorem Ec.len : ∀ {E : List Ms} {ρ : List Sl}, Ec E ρ → E.length = ρ.length
  | [], [], _ => rfl
  | _ :: _, _ :: _, h => by rw [List.length_cons, List.length_cons, Ec.len h.2]
  | [], _ :: _, h => h.elim
  | _ :: _, [], h => h.elim
theorem Ec.get : ∀ {E : List Ms} {ρ : List Sl} {i : Nat} {m : Ms}, Ec E ρ → E[i]? = some m → ∃ s, ρ[i]? = some s ∧ Mo m s
  | [], [], _, _, _, e => by simp at e
  | [], _ :: _, _, _, h, _ => h.elim
  | _ :: _, [], _, _, h, _ => h.elim
  | _ :: _, s :: _, 0, _, h, e => by simp at e; subst e; exact ⟨s, by simp, h.1⟩
  | _ :: _, _ :: _, i + 1, _, h, e => by
    obtain ⟨s, e1, e2⟩ := Ec.get (i := i) h.2 (by simpa using e)
    exact ⟨s, by simpa using e1, e2⟩
theorem Ec.set : ∀ {E : List Ms} {ρ : List Sl} {m : Ms} {s : Sl} (i : Nat), Ec E ρ → Mo m s → Ec (E.set i m) (ρ.set i s)
  | [], [], _, _, _, _, _ => trivial
  | [], _ :: _, _, _, _, h, _ => h.elim
  | _ :: _, [], _, _, _, h, _ => h.elim
  | _ :: _, _ :: _, _, _, 0, h, q => ⟨q, h.2⟩
  | _ :: _, _ :: _, _, _, i + 1, h, q => ⟨h.1, Ec.set i h.2 q⟩
theorem Ec.app : ∀ {E E' : List Ms} {ρ ρ' : List Sl}, Ec E ρ → Ec E' ρ' → Ec (E ++ E') (ρ ++ ρ')
  | [], _, [], _, _, h => h
  | [], _, _ :: _, _, h, _ => h.elim
  | _ :: _, _, [], _, h, _ => h.elim
  | _ :: _, _, _ :: _, _, h, q => ⟨h.1, Ec.app h.2 q⟩
theorem Ec.anys : ∀ n, Ec (List.replicate n .any) (List.replicate n .em)
  | 0 => trivial
  | n + 1 => ⟨trivial, Ec.anys n⟩
/-- less is known -/
def Lm : Ms → Ms → Prop
  | _, .any => True
  | .fz d, .fz e => d = e
  | .ow d, .ow e => d = e
  | .lk d, .lk e => d = e
  | .rd d, .rd e => d = e
  | .fz d, .rd e => d = e
  | .ow d, .rd e => d = e
  | .lk d, .rd e => d = e
  | _, _ => False
def Le : List Ms → List Ms → Prop
  | [], [] => True
  | m :: E, n :: F => Lm m n ∧ Le E F
  | _, _ => False
theorem Lm.mo {m n : Ms} {s : Sl} (h : Lm m n) (q : Mo m s) : Mo n s := by
  cases m <;> cases n <;> simp only [Lm, Mo] at h q ⊢ <;> first | trivial | (subst h; simp [q]) | (subst h; exact q) | exact h.elim | trivial
theorem Le.ec : ∀ {E F : List Ms} {ρ : List Sl}, Le E F → Ec E ρ → Ec F ρ
  | [], [], _, _, q => q
  | _ :: _, _ :: _, _ :: _, h, q => ⟨h.1.mo q.1, Le.ec h.2 q.2⟩
  | _ :: _, _ :: _, [], _, q => q.elim
  | [], _ :: _, _, h, _ => h.elim
  | _ :: _, [], _, h, _ => h.elim
theorem leT {p : Prop} (h : p := by repeat (first | exact True.intro | exact rfl | apply And.intro)) : p := h
theorem set_self' {α : Type} : ∀ {l : List α} {i : Nat} {a : α}, l[i]? = some a → l.set i a = l
  | [], _, _, h => by simp at h
  | x :: xs, 0, a, h => by simp at h; subst h; rfl
  | x :: xs, i + 1, a, h => by rw [List.set_cons_succ, set_self' (by simpa using h)]
theorem Ec.setR {E : List Ms} {ρ : List Sl} {i : Nat} {m : Ms} {s : Sl} (h : Ec E ρ) (e : E[i]? = some m) (q : Mo m s) : Ec E (ρ.set i s) := by
  have := h.set i q
  rwa [set_self' e] at this
theorem ltT {p : Prop} (h : p := by first | decide | exact of_decide_eq_true rfl) : p := h
/-- what kind of result: for good, new, either, what a read slot holds, what an owned slot holds -/
inductive Kd where
  | val | new | vn | nam (i : Nat) | own (i : Nat)
def Kr : Kd → D → Rs → Prop
  | .val, d, r => r = .fz d
  | .new, d, r => r = .ow d
  | .vn, d, r => r = .fz d ∨ r = .ow d
  | .nam i, d, r => r = .fz d ∨ r = .nm i
  | .own i, _, r => r = .nm i
def RdM : Option Ms → D → Prop
  | some (.fz e), d => e = d
  | some (.ow e), d => e = d
  | some (.lk e), d => e = d
  | some (.rd e), d => e = d
  | _, _ => False
def RdR : Option Ms → D → Prop
  | some (.fz e), d => e = d
  | some (.rd e), d => e = d
  | _, _ => False
/-- the result still reads d -/
def Rdk : Kd → D → List Ms → Prop
  | .nam i, d, E => RdR E[i]? d
  | .own i, d, E => RdM E[i]? d
  | _, _, _ => True
theorem RdR.m {o : Option Ms} {d : D} (h : RdR o d) : RdM o d := by
  cases o with
  | none => exact h
  | some m => cases m <;> first | exact h | exact h.elim
theorem Ec.rd {E : List Ms} {ρ : List Sl} {i : Nat} {d : D} (h : Ec E ρ) (q : RdM E[i]? d) : ρ[i]? = some (.fz d) ∨ ρ[i]? = some (.ow d) ∨ ρ[i]? = some (.lk d) := by
  cases e : E[i]? with
  | none => rw [e] at q; exact q.elim
  | some m =>
    rw [e] at q
    obtain ⟨s, e1, e2⟩ := h.get e
    cases m with
    | any => exact q.elim
    | fz d' => have q : d' = d := q; subst q; have e2 : s = .fz d' := e2; subst e2; exact .inl e1
    | ow d' => have q : d' = d := q; subst q; have e2 : s = .ow d' := e2; subst e2; exact .inr (.inl e1)
    | lk d' => have q : d' = d := q; subst q; have e2 : s = .lk d' := e2; subst e2; exact .inr (.inr e1)
    | rd d' =>
      have q : d' = d := q; subst q
      rcases e2 with z | z | z <;> subst z
      · exact .inl e1
      · exact .inr (.inl e1)
      · exact .inr (.inr e1)
theorem look_k {k : Kd} {d : D} {r : Rs} {E : List Ms} {ρ : List Sl} (h : Kr k d r) (q : Rdk k d E) (e : Ec E ρ) : look r ρ = .ok d ρ := by
  have nm : ∀ i, RdM E[i]? d → look (.nm i) ρ = .ok d ρ := fun i q => by
    unfold look
    rcases e.rd q with z | z | z <;> simp only [z]
  cases k with
  | val => have h : r = .fz d := h; subst h; rfl
  | new => have h : r = .ow d := h; subst h; rfl
  | vn => rcases h with h | h <;> subst h <;> rfl
  | nam i => rcases h with h | h <;> subst h <;> first | rfl | exact nm i (RdR.m q)
  | own i => have h : r = .nm i := h; subst h; exact nm i q
/-- a slot is frozen -/
def frzE : Kd → D → List Ms → List Ms
  | .own i, d, E => E.set i (.fz d)
  | _, _, E => E
theorem frz_k {k : Kd} {d : D} {r : Rs} {E : List Ms} {ρ : List Sl} (h : Kr k d r) (q : Rdk k d E) (e : Ec E ρ) : ∃ ρ', frz r ρ = .ok d ρ' ∧ Ec (frzE k d E) ρ' := by
  cases k with
  | val => have h : r = .fz d := h; subst h; exact ⟨ρ, rfl, e⟩
  | new => have h : r = .ow d := h; subst h; exact ⟨ρ, rfl, e⟩
  | vn => rcases h with h | h <;> subst h <;> exact ⟨ρ, rfl, e⟩
  | nam i =>
    have q : RdR E[i]? d := q
    have hz : Ec E (ρ.set i (.fz d)) := by
      cases em : E[i]? with
      | none => rw [em] at q; exact q.elim
      | some m =>
        rw [em] at q
        cases m with
        | fz d' => have q : d' = d := q; subst q; exact e.setR em rfl
        | rd d' => have q : d' = d := q; subst q; exact e.setR em (.inl rfl)
        | _ => exact q.elim
    rcases h with h | h <;> subst h
    · exact ⟨ρ, rfl, e⟩
    · unfold frz
      rcases e.rd q.m with z | z | z <;> simp only [z]
      · exact ⟨ρ, rfl, e⟩
      · exact ⟨_, rfl, hz⟩
      · exact ⟨_, rfl, hz⟩
  | own i =>
    have h : r = .nm i := h; subst h
    have hz : Ec (E.set i (.fz d)) (ρ.set i (.fz d)) := e.set i rfl
    unfold frz
    rcases e.rd q with z | z | z <;> simp only [z]
    · exact ⟨ρ, rfl, by rwa [set_self' z] at hz⟩
    · exact ⟨_, rfl, hz⟩
    · exact ⟨_, rfl, hz⟩
theorem RdM.set {E : List Ms} {i j : Nat} {d d' : D} (q : RdM E[j]? d') (h : RdM E[i]? d) : RdM (E.set i (.fz d))[j]? d' := by
  by_cases e : i = j
  · subst e
    rcases Nat.lt_or_ge i E.length with z | z
    · rw [List.getElem?_set_self z]
      cases em : E[i]? with
      | none => rw [em] at q; exact q.elim
      | some m =>
        rw [em] at q h
        cases m <;> first | exact q.elim | (have q : _ = d' := q; have h : _ = d := h; subst q; subst h; rfl)
    · rw [List.getElem?_eq_none z] at q; exact q.elim
  · rwa [List.getElem?_set_ne e]
theorem RdR.set {E : List Ms} {i j : Nat} {d d' : D} (q : RdR E[j]? d') (h : RdM E[i]? d) : RdR (E.set i (.fz d))[j]? d' := by
  by_cases e : i = j
  · subst e
    rcases Nat.lt_or_ge i E.length with z | z
    · rw [List.getElem?_set_self z]
      cases em : E[i]? with
      | none => rw [em] at q; exact q.elim
      | some m =>
        rw [em] at q h
        cases m <;> first | exact q.elim | (have q : _ = d' := q; have h : _ = d := h; subst q; subst h; rfl)
    · rw [List.getElem?_eq_none z] at q; exact q.elim
  · rwa [List.getElem?_set_ne e]
theorem Rdk.frz {k k' : Kd} {d d' : D} {E : List Ms} (q : Rdk k d E) (h : Rdk k' d' E) : Rdk k d (frzE k' d' E) := by
  cases k' with
  | own i =>
    cases k with
    | nam j => exact RdR.set q h
    | own j => exact RdM.set q h
    | _ => trivial
  | _ => exact q
/-! ### expressions -/
def Ev (E : List Ms) (m : M Rs) (k : Kd) (d : D) (E' : List Ms) : Prop := Rdk k d E' ∧ ∀ ρ, Ec E ρ → ∃ r ρ', m ρ = .ok r ρ' ∧ Kr k d r ∧ Ec E' ρ'
def KrA : List Kd → List D → List Rs → Prop
  | [], [], [] => True
  | k :: ks, d :: ds, r :: rs => Kr k d r ∧ KrA ks ds rs
  | _, _, _ => False
def RdkA : List Kd → List D → List Ms → Prop
  | [], [], _ => True
  | k :: ks, d :: ds, E => Rdk k d E ∧ RdkA ks ds E
  | _, _, _ => False
def Ea (E : List Ms) (f : M (List Rs)) (ks : List Kd) (ds : List D) (E' : List Ms) : Prop := ∀ ρ, Ec E ρ → ∃ rs ρ', f ρ = .ok rs ρ' ∧ KrA ks ds rs ∧ Ec E' ρ'
def Tj (E : List Ms) (t : M Bool) (b : Bool) (E' : List Ms) : Prop := ∀ ρ, Ec E ρ → ∃ ρ', t ρ = .ok b ρ' ∧ Ec E' ρ'
theorem bd_eq {α β : Type} {m : M α} {k : α → M β} {ρ ρ1 : List Sl} {a : α} (h : m ρ = .ok a ρ1) : bd m k ρ = k a ρ1 := by unfold bd; rw [h]
theorem opt_eq {α : Type} {o : Option α} {ρ : List Sl} {a : α} (h : o = some a) : opt o ρ = .ok a ρ := by unfold opt; rw [h]
theorem lookA_k : ∀ {ks : List Kd} {ds : List D} {rs : List Rs} {E : List Ms} {ρ : List Sl}, KrA ks ds rs → RdkA ks ds E → Ec E ρ → lookA rs ρ = .ok ds ρ
  | [], [], [], _, _, _, _, _ => rfl
  | k :: ks, d :: ds, r :: rs, _, _, h, q, e => by
    unfold lookA
    rw [bd_eq (look_k h.1 q.1 e), bd_eq (lookA_k h.2 q.2 e)]; rfl
  | [], [], _ :: _, _, _, h, _, _ => h.elim
  | [], _ :: _, _, _, _, h, _, _ => h.elim
  | _ :: _, [], _, _, _, h, _, _ => h.elim
  | _ :: _, _ :: _, [], _, _, h, _, _ => h.elim
def frzEA : List Kd → List D → List Ms → List Ms
  | k :: ks, d :: ds, E => frzEA ks ds (frzE k d E)
  | _, _, E => E
theorem RdkA.frz {k' : Kd} {d' : D} {E : List Ms} (h : Rdk k' d' E) : ∀ {ks : List Kd} {ds : List D}, RdkA ks ds E → RdkA ks ds (frzE k' d' E)
  | [], [], _ => trivial
  | _ :: _, _ :: _, q => ⟨Rdk.frz q.1 h, RdkA.frz h q.2⟩
  | [], _ :: _, q => q.elim
  | _ :: _, [], q => q.elim
theorem frzA_k : ∀ {ks : List Kd} {ds : List D} {rs : List Rs} {E : List Ms} {ρ : List Sl}, KrA ks ds rs → RdkA ks ds E → Ec E ρ → ∃ ρ', frzA rs ρ = .ok ds ρ' ∧ Ec (frzEA ks ds E) ρ'
  | [], [], [], _, ρ, _, _, e => ⟨ρ, rfl, e⟩
  | k :: ks, d :: ds, r :: rs, _, _, h, q, e => by
    obtain ⟨ρ1, e1, e2⟩ := frz_k h.1 q.1 e
    obtain ⟨ρ2, e3, e4⟩ := frzA_k h.2 (RdkA.frz q.1 q.2) e2
    refine ⟨ρ2, ?_, e4⟩
    unfold frzA
    rw [bd_eq e1, bd_eq e3]; rfl
  | [], [], _ :: _, _, _, h, _, _ => h.elim
  | [], _ :: _, _, _, _, h, _, _ => h.elim
  | _ :: _, [], _, _, _, h, _, _ => h.elim
  | _ :: _, _ :: _, [], _, _, h, _, _ => h.elim
theorem rdT {p : Prop} (h : p := by repeat (first | exact True.intro | exact rfl | apply And.intro)) : p := h
section
variable {E E1 E2 E3 : List Ms} {m a b c : M Rs} {k ka kb kc : Kd} {d da db dc : D} {i j : Nat} {f : M (List Rs)} {ks : List Kd} {ds : List D}
theorem ev_C : Ev E (dC d) .val d E := ⟨trivial, fun ρ h => ⟨_, ρ, rfl, rfl, h⟩⟩
theorem ev_fz (h : E[i]? = some (.fz d)) : Ev E (dVar i) .val d E := ⟨trivial, fun ρ e => by
  obtain ⟨s, e1, e2⟩ := e.get h
  have e2 : s = .fz d := e2; subst e2
  exact ⟨_, ρ, by unfold dVar; rw [e1], rfl, e⟩⟩
theorem ev_rd (h : E[i]? = some (.rd d)) : Ev E (dVar i) (.nam i) d E := ⟨by show RdR E[i]? d; rw [h]; rfl, fun ρ e => by
  obtain ⟨s, e1, e2⟩ := e.get h
  rcases e2 with e2 | e2 | e2 <;> subst e2
  · exact ⟨_, ρ, by unfold dVar; rw [e1], .inl rfl, e⟩
  · exact ⟨_, ρ, by unfold dVar; rw [e1], .inr rfl, e⟩
  · exact ⟨_, ρ, by unfold dVar; rw [e1], .inr rfl, e⟩⟩
theorem ev_ow (h : E[i]? = some (.ow d)) : Ev E (dVar i) (.own i) d E := ⟨by show RdM E[i]? d; rw [h]; rfl, fun ρ e => by
  obtain ⟨s, e1, e2⟩ := e.get h
  have e2 : s = .ow d := e2; subst e2
  exact ⟨_, ρ, by unfold dVar; rw [e1], rfl, e⟩⟩
/-- for good or new: what is made of it -/
def Rk : Rs → Kd → D → Prop
  | .fz d, .val, e => e = d
  | .ow d, .new, e => e = d
  | _, _, _ => False
theorem Rk.kr {r : Rs} (h : Rk r k d) : Kr k d r ∧ ∀ E, Rdk k d E := by
  cases r with
  | fz e => cases k <;> first | exact h.elim | (have h : d = e := h; subst h; exact ⟨rfl, fun _ => trivial⟩)
  | ow e => cases k <;> first | exact h.elim | (have h : d = e := h; subst h; exact ⟨rfl, fun _ => trivial⟩)
  | nm _ => cases k <;> exact h.elim
theorem ev_op2 {g : G2} {r : Rs} (ha : Ev E a ka da E1) (hb : Ev E1 b kb db E2) (hg : g da db = some r) (hk : Rk r k d) (hr : Rdk ka da E2 := by repeat (first | exact True.intro | exact rfl | apply And.intro)) : Ev E (dOp2 g a b) k d E2 := ⟨hk.kr.2 _, fun ρ e => by
  obtain ⟨ra, ρ1, e1, q1, c1⟩ := ha.2 ρ e
  obtain ⟨rb, ρ2, e2, q2, c2⟩ := hb.2 ρ1 c1
  refine ⟨r, ρ2, ?_, hk.kr.1, c2⟩
  unfold dOp2
  rw [bd_eq e1, bd_eq e2, bd_eq (look_k q1 hr c2), bd_eq (look_k q2 hb.1 c2)]
  exact opt_eq hg⟩
theorem tj_cmp {g : D → D → Option Bool} {p : Bool} (ha : Ev E a ka da E1) (hb : Ev E1 b kb db E2) (hg : g da db = some p) (hr : Rdk ka da E2 := by repeat (first | exact True.intro | exact rfl | apply And.intro)) : Tj E (dOp2T g a b) p E2 := fun ρ e => by
  obtain ⟨ra, ρ1, e1, q1, c1⟩ := ha.2 ρ e
  obtain ⟨rb, ρ2, e2, q2, c2⟩ := hb.2 ρ1 c1
  refine ⟨ρ2, ?_, c2⟩
  unfold dOp2T
  rw [bd_eq e1, bd_eq e2, bd_eq (look_k q1 hr c2), bd_eq (look_k q2 hb.1 c2)]
  exact opt_eq hg
theorem ev_op1 {g : D → Option Rs} {r : Rs} (ha : Ev E a ka da E1) (hg : g da = some r) (hk : Rk r k d) : Ev E (dOp1 g a) k d E1 := ⟨hk.kr.2 _, fun ρ e => by
  obtain ⟨ra, ρ1, e1, q1, c1⟩ := ha.2 ρ e
  refine ⟨r, ρ1, ?_, hk.kr.1, c1⟩
  unfold dOp1
  rw [bd_eq e1, bd_eq (look_k q1 ha.1 c1)]
  exact opt_eq hg⟩
theorem ea_nil : Ea E dNil [] [] E := fun ρ e => ⟨[], ρ, rfl, trivial, e⟩
theorem ea_cons (ha : Ev E a ka da E1) (hf : Ea E1 f ks ds E2) : Ea E (dCons a f) (ka :: ks) (da :: ds) E2 := fun ρ e => by
  obtain ⟨ra, ρ1, e1, q1, c1⟩ := ha.2 ρ e
  obtain ⟨rs, ρ2, e2, q2, c2⟩ := hf ρ1 c1
  refine ⟨ra :: rs, ρ2, ?_, ⟨q1, q2⟩, c2⟩
  unfold dCons
  rw [bd_eq e1, bd_eq e2]; rfl
theorem ev_tup (hf : Ea E f ks ds E1) (hr : RdkA ks ds E1 := by repeat (first | exact True.intro | exact rfl | apply And.intro)) (hl : ds.length ≤ 1000 := by first | decide | exact of_decide_eq_true rfl) : Ev E (dTup f) .val (.tuple ds) (frzEA ks ds E1) := ⟨trivial, fun ρ e => by
  obtain ⟨rs, ρ1, e1, q1, c1⟩ := hf ρ e
  obtain ⟨ρ2, e2, c2⟩ := frzA_k q1 hr c1
  refine ⟨_, ρ2, ?_, rfl, c2⟩
  unfold dTup
  rw [bd_eq e1, bd_eq e2, if_pos hl]; rfl⟩
theorem ev_lst (hf : Ea E f ks ds E1) (hr : RdkA ks ds E1 := by repeat (first | exact True.intro | exact rfl | apply And.intro)) (hl : ds.length ≤ 1000 := by first | decide | exact of_decide_eq_true rfl) : Ev E (dLst f) .new (.list ds) (frzEA ks ds E1) := ⟨trivial, fun ρ e => by
  obtain ⟨rs, ρ1, e1, q1, c1⟩ := hf ρ e
  obtain ⟨ρ2, e2, c2⟩ := frzA_k q1 hr c1
  refine ⟨_, ρ2, ?_, rfl, c2⟩
  unfold dLst
  rw [bd_eq e1, bd_eq e2, if_pos hl]; rfl⟩
theorem ev_B {g : List D → Option Rs} {r : Rs} (hf : Ea E f ks ds E1) (hg : g ds = some r) (hk : Rk r k d) (hr : RdkA ks ds E1 := by repeat (first | exact True.intro | exact rfl | apply And.intro)) : Ev E (dB g f) k d E1 := ⟨hk.kr.2 _, fun ρ e => by
  obtain ⟨rs, ρ1, e1, q1, c1⟩ := hf ρ e
  refine ⟨r, ρ1, ?_, hk.kr.1, c1⟩
  unfold dB
  rw [bd_eq e1, bd_eq (lookA_k q1 hr c1)]
  exact opt_eq hg⟩
theorem ev_B1 {g : List D → Option Rs} {r : Rs} (ha : Ev E a ka da E1) (hg : g [da] = some r) (hk : Rk r k d) : Ev E (dB g (dCons a dNil)) k d E1 := ev_B (ea_cons ha ea_nil) hg hk ⟨ha.1, trivial⟩
/-- known for less -/
theorem Ev.le (ha : Ev E m k d E1) (hl : Le E1 E2) (hr : Rdk k d E2) : Ev E m k d E2 := ⟨hr, fun ρ e => by
  obtain ⟨r, ρ1, e1, q1, c1⟩ := ha.2 ρ e
  exact ⟨r, ρ1, e1, q1, hl.ec c1⟩⟩
theorem Tj.le {t : M Bool} {p : Bool} (ha : Tj E t p E1) (hl : Le E1 E2) : Tj E t p E2 := fun ρ e => by
  obtain ⟨ρ1, e1, c1⟩ := ha ρ e
  exact ⟨ρ1, e1, hl.ec c1⟩
theorem Ev.eq {d' : D} (ha : Ev E m k d E1) (h : d = d') : Ev E m k d' E1 := h ▸ ha
/-! tests -/
theorem tj_tru {p : Bool} (ha : Ev E a ka da E1) (h : tru da = some p) : Tj E (dTru a) p E1 := fun ρ e => by
  obtain ⟨ra, ρ1, e1, q1, c1⟩ := ha.2 ρ e
  refine ⟨ρ1, ?_, c1⟩
  unfold dTru
  rw [bd_eq e1, bd_eq (look_k q1 ha.1 c1)]
  exact opt_eq h
theorem tj_b {p : Bool} (ha : Ev E a ka (.bool p) E1) : Tj E (dTru a) p E1 := tj_tru ha rfl
theorem tj_not {t : M Bool} {p : Bool} (h : Tj E t p E1) : Tj E (dNot t) (!p) E1 := fun ρ e => by
  obtain ⟨ρ1, e1, c1⟩ := h ρ e
  refine ⟨ρ1, ?_, c1⟩
  unfold dNot
  rw [bd_eq e1]; rfl
theorem tj_or {t u : M Bool} {p q : Bool} (h : Tj E t p E1) (h2 : p = false → Tj E1 u q E1) : Tj E (dOr t u) (p || q) E1 := fun ρ e => by
  obtain ⟨ρ1, e1, c1⟩ := h ρ e
  unfold dOr
  rw [bd_eq e1]
  cases p with
  | true => exact ⟨ρ1, rfl, c1⟩
  | false =>
    obtain ⟨ρ2, e2, c2⟩ := h2 rfl ρ1 c1
    exact ⟨ρ2, by simpa using e2, c2⟩
/-- a choice: one kind -/
theorem ev_if {t : M Bool} {p : Bool} {α : Type} {enc : α → D} {x y : α} (ht : Tj E t p E1) (ha : p = true → Ev E1 a k (enc x) E1) (hb : p = false → Ev E1 b k (enc y) E1) (hk : ∀ d, Rdk k d E1 := by intro _; exact True.intro) : Ev E (dIfE t a b) k (enc (if p = true then x else y)) E1 := ⟨hk _, fun ρ e => by
  obtain ⟨ρ1, e1, c1⟩ := ht ρ e
  unfold dIfE
  rw [bd_eq e1]
  cases p with
  | true => obtain ⟨r, ρ2, e2, q2, c2⟩ := (ha rfl).2 ρ1 c1; exact ⟨r, ρ2, by simpa using e2, by simpa using q2, c2⟩
  | false => obtain ⟨r, ρ2, e2, q2, c2⟩ := (hb rfl).2 ρ1 c1; exact ⟨r, ρ2, by simpa using e2, by simpa using q2, c2⟩⟩
end
end TL
namespace TL
open PySem L2 DL
/-- a value that is told once -/
def Let {α β : Type} (x : α) (o : α → β) : β := o x
section
variable {E E1 E2 E3 : List Ms} {m a b c : M Rs} {k ka kb kc : Kd} {d da db dc : D} {i j : Nat} {f : M (List Rs)} {ks : List Kd} {ds : List D} {τ : Type} {P : τ → SR → Prop} {rest s s1 s2 body : DS} {v x y : τ}
def Sg (E : List Ms) (s : DS) (P : τ → SR → Prop) (v : τ) : Prop := ∀ ρ, Ec E ρ → P v (s ρ)
theorem seq_nx {ρ ρ1 : List Sl} (h : s ρ = .nx ρ1) : dSeq s rest ρ = rest ρ1 := by unfold dSeq; rw [h]
theorem sg_last (h : Sg E (dSeq s dPass) P v) : Sg E s P v := fun ρ e => by
  have h := h ρ e
  have : dSeq s dPass ρ = s ρ := by unfold dSeq dPass; cases s ρ <;> rfl
  rwa [this] at h
theorem sg_skip (h : Sg E rest P v) : Sg E (dSeq dPass rest) P v := fun ρ e => by
  have h := h ρ e
  exact h
theorem sg_le (hl : Le E E1) (h : Sg E1 s P v) : Sg E s P v := fun ρ e => h ρ (hl.ec e)
/-- the slot behind a store -/
def setE (i : Nat) : Kd → D → List Ms → List Ms
  | .val, d, E => E.set i (.fz d)
  | .new, d, E => E.set i (.ow d)
  | .vn, d, E => E.set i (.rd d)
  | .nam _, d, E => E.set i (.fz d)
  | .own j, d, E => (E.set j (.fz d)).set i (.fz d)
theorem setR_k {r : Rs} {ρ : List Sl} (h : Kr k d r) (q : Rdk k d E) (e : Ec E ρ) (hi : i < E.length) : ∃ ρ', setR i r ρ = some ρ' ∧ Ec (setE i k d E) ρ' := by
  have hi' : i < ρ.length := by rw [← e.len]; exact hi
  have go : ∀ j ρ1, r = .nm j → frz (.nm j) ρ = .ok d ρ1 → setR i r ρ = some (ρ1.set i (.fz d)) := fun j ρ1 z q => by
    subst z
    unfold setR
    rw [if_pos hi']
    simp only [q]
  cases k with
  | val => have h : r = .fz d := h; subst h; exact ⟨_, setR_fz hi', e.set i rfl⟩
  | new => have h : r = .ow d := h; subst h; exact ⟨_, setR_ow hi', e.set i rfl⟩
  | vn => rcases h with h | h <;> subst h
          · exact ⟨_, setR_fz hi', e.set i (.inl rfl)⟩
          · exact ⟨_, setR_ow hi', e.set i (.inr (.inl rfl))⟩
  | nam j =>
    rcases h with h | h
    · subst h; exact ⟨_, setR_fz hi', e.set i rfl⟩
    · obtain ⟨ρ1, e1, e2⟩ := frz_k (k := .nam j) (r := .nm j) (d := d) (.inr rfl) q e
      exact ⟨_, go j ρ1 h e1, e2.set i rfl⟩
  | own j =>
    have h : r = .nm j := h
    obtain ⟨ρ1, e1, e2⟩ := frz_k (k := .own j) (r := .nm j) (d := d) rfl q e
    exact ⟨_, go j ρ1 h e1, e2.set i rfl⟩
theorem sg_set (ha : Ev E a k d E1) (h : Sg (setE i k d E1) rest P v) (hi : i < E1.length := by first | decide | exact of_decide_eq_true rfl) : Sg E (dSeq (dSet i a) rest) P v := fun ρ e => by
  obtain ⟨r, ρ1, e1, q1, c1⟩ := ha.2 ρ e
  obtain ⟨ρ2, e2, c2⟩ := setR_k q1 ha.1 c1 hi
  rw [seq_nx (ρ1 := ρ2) (by unfold dSet; simp only [e1, e2])]
  exact h ρ2 c2
theorem sg_drop (ha : Ev E a k d E1) (h : Sg E1 rest P v) : Sg E (dSeq (dDrop a) rest) P v := fun ρ e => by
  obtain ⟨r, ρ1, e1, q1, c1⟩ := ha.2 ρ e
  rw [seq_nx (ρ1 := ρ1) (by unfold dDrop; simp only [e1])]
  exact h ρ1 c1
theorem sg_if {t : M Bool} {p : Bool} (ht : Tj E t p E1) (h1 : p = true → Sg E1 (dSeq s1 rest) P x) (h2 : p = false → Sg E1 (dSeq s2 rest) P y) : Sg E (dSeq (dIf t s1 s2) rest) P (if p = true then x else y) := fun ρ e => by
  obtain ⟨ρ1, e1, c1⟩ := ht ρ e
  cases p with
  | true =>
    have : dSeq (dIf t s1 s2) rest ρ = dSeq s1 rest ρ1 := by unfold dSeq dIf; rw [e1]
    rw [this]; exact h1 rfl ρ1 c1
  | false =>
    have : dSeq (dIf t s1 s2) rest ρ = dSeq s2 rest ρ1 := by unfold dSeq dIf; rw [e1]
    rw [this]; exact h2 rfl ρ1 c1
/-- known which way -/
theorem sg_ifF {t : M Bool} {p : Bool} (ht : Tj E t p E1) (hp : p = false) (h2 : Sg E1 (dSeq s2 rest) P y) : Sg E (dSeq (dIf t s1 s2) rest) P y := fun ρ e => by
  obtain ⟨ρ1, e1, c1⟩ := ht ρ e
  subst hp
  have : dSeq (dIf t s1 s2) rest ρ = dSeq s2 rest ρ1 := by unfold dSeq dIf; rw [e1]
  rw [this]; exact h2 ρ1 c1
/-! ### the end of a def -/
def Rdb (ρ : List Sl) (i : Nat) (d : D) : Prop := ρ[i]? = some (.fz d) ∨ ρ[i]? = some (.ow d) ∨ ρ[i]? = some (.lk d)
def Rkk (n : Nat) (outs : List Ms) : Kd → D → Rs → List Sl → Prop
  | .val, d, r, ρ => r = .fz d ∨ ∃ i, r = .nm i ∧ (ρ[i]? = some (.fz d) ∨ (i < n ∧ RdR outs[i]? d ∧ Rdb ρ i d))
  | .new, d, r, ρ => r = .ow d ∨ ∃ i, r = .nm i ∧ n ≤ i ∧ ρ[i]? = some (.ow d)
  | .vn, d, r, ρ => r = .fz d ∨ r = .ow d ∨ ∃ i, r = .nm i ∧ n ≤ i ∧ n ≤ i ∧ Rdb ρ i d
  | _, _, _, _ => False
def Rt {α : Type} (n : Nat) (enc : α → D) (k : Kd) (outs : α → List Ms) (v : α) (r : Rs) (ρ : List Sl) : Prop := Rkk n (outs v) k (enc v) r ρ ∧ Ec (outs v) ρ
def Pr {α : Type} (n : Nat) (enc : α → D) (k : Kd) (outs : α → List Ms) : α → SR → Prop := fun v o => match o with
  | .rt r ρ => Rt n enc k outs v r ρ
  | .nx ρ => k = .val ∧ enc v = .none ∧ Ec (outs v) ρ
  | _ => False
/-- how a def's result may come from an expression's -/
def RetOk (n : Nat) (outs : List Ms) (E : List Ms) (d : D) : Kd → Kd → Prop
  | .val, .val => True
  | .new, .new => True
  | .val, .vn => True
  | .new, .vn => True
  | .vn, .vn => True
  | .nam i, .val => i < n ∧ RdR outs[i]? d
  | .own i, .val => i < n ∧ RdR outs[i]? d
  | .own i, .new => n ≤ i ∧ E[i]? = some (.ow d)
  | .nam i, .vn => n ≤ i
  | .own i, .vn => n ≤ i
  | _, _ => False
theorem rt_ok {n : Nat} {outs : List Ms} {ke : Kd} {r : Rs} {ρ : List Sl} (h : Kr ke d r) (q : Rdk ke d E) (e : Ec E ρ) (ho : RetOk n outs E d ke k) : Rkk n outs k d r ρ := by
  cases ke with
  | val => have h : r = .fz d := h; cases k <;> first | exact .inl h | exact ho.elim
  | new => have h : r = .ow d := h; cases k <;> first | exact .inl h | exact .inr (.inl h) | exact ho.elim
  | vn => cases k <;> first | exact ho.elim | exact h.elim .inl fun z => .inr (.inl z)
  | nam i =>
    have rd := e.rd (RdR.m q)
    cases k with
    | val => rcases h with h | h
             · exact .inl h
             · exact .inr ⟨i, h, .inr ⟨ho.1, ho.2, rd⟩⟩
    | vn => rcases h with h | h
            · exact .inl h
            · exact .inr (.inr ⟨i, h, ho, ho, rd⟩)
    | _ => exact ho.elim
  | own i =>
    have h : r = .nm i := h
    have rd := e.rd q
    cases k with
    | val => exact .inr ⟨i, h, .inr ⟨ho.1, ho.2, rd⟩⟩
    | vn => exact .inr (.inr ⟨i, h, ho, ho, rd⟩)
    | new =>
      obtain ⟨s, e1, e2⟩ := e.get ho.2
      have e2 : s = .ow d := e2; subst e2
      exact .inr ⟨i, h, ho.1, e1⟩
    | _ => exact ho.elim
theorem roT {p : Prop} (h : p := by first | exact True.intro | exact ⟨by decide, rfl⟩ | decide | exact Nat.le_of_ble_eq_true rfl) : p := h
theorem sg_ret {α : Type} {n : Nat} {enc : α → D} {outs : α → List Ms} {v : α} {ke : Kd} (ha : Ev E a ke (enc v) E1) (hl : Le E1 (outs v)) (ho : RetOk n (outs v) E1 (enc v) ke k) : Sg E (dSeq (dRet a) rest) (Pr n enc k outs) v := fun ρ e => by
  obtain ⟨r, ρ1, e1, q1, c1⟩ := ha.2 ρ e
  have : dSeq (dRet a) rest ρ = .rt r ρ1 := by unfold dSeq dRet; rw [e1]
  rw [this]
  exact ⟨rt_ok q1 ha.1 c1 ho, hl.ec c1⟩
def outM : List Bool → List Ms → List Ms
  | true :: bs, m :: E => m :: outM bs E
  | false :: bs, _ :: E => .any :: outM bs E
  | _, _ => []
theorem outM_ec : ∀ {ms : List Bool} {E : List Ms} {ρ : List Sl}, Ec E ρ → Ec (outM ms E) (outP ms ρ)
  | [], _, _, _ => by unfold outM outP; trivial
  | true :: _, [], [], _ => trivial
  | false :: _, [], [], _ => trivial
  | true :: _, _ :: _, _ :: _, h => ⟨h.1, outM_ec h.2⟩
  | false :: _, _ :: _, _ :: _, h => ⟨trivial, outM_ec h.2⟩
  | _ :: _, [], _ :: _, h => h.elim
  | _ :: _, _ :: _, [], h => h.elim
theorem ev_run {α : Type} {n N : Nat} {enc : α → D} {outs : α → List Ms} {v : α} {ms : List Bool} {ins : List Ms} (h : Sg (ins ++ List.replicate (N - ins.length) .any) body (Pr n enc k outs) v) (hk : ∀ d E, Rdk k d E := by intro _ _; exact True.intro) (hm : ms.length = n := by rfl) :
    Ev ins (runDef ms N body) k (enc v) (outM ms (outs v)) := ⟨hk _ _, fun ρ e => by
  have h := h (ρ ++ List.replicate (N - ρ.length) .em) (by rw [e.len]; exact e.app (Ec.anys _))
  unfold runDef
  generalize body (ρ ++ List.replicate (N - ρ.length) .em) = o at h
  cases o with
  | nx ρ1 => obtain ⟨e1, e2, e3⟩ := h; subst e1; rw [e2]; exact ⟨_, _, rfl, rfl, outM_ec e3⟩
  | rt r ρ1 =>
    obtain ⟨h1, h2⟩ := h
    have setd : ∀ i, RdR (outs v)[i]? (enc v) → Ec (outs v) (ρ1.set i (.fz (enc v))) := fun i q => by
      cases em : (outs v)[i]? with
      | none => rw [em] at q; exact q.elim
      | some m =>
        rw [em] at q
        cases m with
        | fz d' => have q : d' = enc v := q; subst q; exact h2.setR em rfl
        | rd d' => have q : d' = enc v := q; rw [← q]; exact h2.setR em (.inl rfl)
        | _ => exact q.elim
    cases k with
    | val =>
      rcases h1 with h1 | ⟨i, h1, q⟩
      · subst h1; exact ⟨_, _, rfl, rfl, outM_ec h2⟩
      · subst h1
        rcases q with q | ⟨q1, q2, q⟩
        · simp only [q]; exact ⟨_, _, rfl, rfl, outM_ec h2⟩
        · rcases q with q | q | q <;> simp only [q]
          · exact ⟨_, _, rfl, rfl, outM_ec h2⟩
          · rw [if_neg (by omega)]; exact ⟨_, _, rfl, rfl, outM_ec (setd i q2)⟩
          · exact ⟨_, _, rfl, rfl, outM_ec (setd i q2)⟩
    | new =>
      rcases h1 with h1 | ⟨i, h1, q1, q⟩
      · subst h1; exact ⟨_, _, rfl, rfl, outM_ec h2⟩
      · subst h1; simp only [q]; rw [if_pos (by omega)]; exact ⟨_, _, rfl, rfl, outM_ec h2⟩
    | vn =>
      have setl : ∀ i, n ≤ i → Ec (outM ms (outs v)) (outP ms (ρ1.set i (.fz (enc v)))) := fun i hi => by
        have key : ∀ {ms : List Bool} {ρ : List Sl} {i : Nat} {s : Sl}, ms.length ≤ i → outP ms (ρ.set i s) = outP ms ρ := by
          intro ms
          induction ms with
          | nil => intro ρ i s _; unfold outP; rfl
          | cons b bs ih =>
            intro ρ i s hi
            cases ρ with
            | nil => rfl
            | cons s0 ρ =>
              cases i with
              | zero => simp at hi
              | succ i => cases b <;> simp only [List.set_cons_succ, outP] <;> rw [ih (by simpa using hi)]
        rw [key (by omega)]; exact outM_ec h2
      rcases h1 with h1 | h1 | ⟨i, h1, q1, _, q⟩
      · subst h1; exact ⟨_, _, rfl, .inl rfl, outM_ec h2⟩
      · subst h1; exact ⟨_, _, rfl, .inr rfl, outM_ec h2⟩
      · subst h1
        rcases q with q | q | q <;> simp only [q]
        · exact ⟨_, _, rfl, .inl rfl, outM_ec h2⟩
        · rw [if_pos (by omega)]; exact ⟨_, _, rfl, .inr rfl, outM_ec h2⟩
        · exact ⟨_, _, rfl, .inl rfl, setl i q1⟩
    | nam i => exact h1.elim
    | own i => exact h1.elim
  | _ => exact h.elim⟩
end
end TL
namespace TL
open PySem L2 DL
inductive Lki where
  | no | sure (i : Nat) | may (i : Nat)
def LkOk : Lki → Option Nat → Prop
  | .no, l => l = none
  | .sure i, l => l = some i
  | .may i, l => l = none ∨ l = some i
def unlE : Lki → List Ms → List Ms
  | .no, E => E
  | .sure i, E => match E[i]? with
    | some (.lk d) => E.set i (.ow d)
    | _ => E
  | .may i, E => match E[i]? with
    | some (.lk d) => E.set i (.rd d)
    | _ => E
section
variable {E E1 E2 E3 : List Ms} {m a b c e : M Rs} {k ka kb kc : Kd} {d da db dc : D} {i j : Nat} {f : M (List Rs)} {ks : List Kd} {ds : List D} {τ : Type} {P : τ → SR → Prop} {rest s s1 s2 body : DS} {v x y : τ} {li : Lki} {l : Option Nat} {ρ ρ1 ρ2 : List Sl}
theorem Ec.pt (hl : E.length = ρ.length) (h : ∀ (i : Nat) (m : Ms) (s : Sl), E[i]? = some m → ρ[i]? = some s → Mo m s) : Ec E ρ := by
  induction E generalizing ρ with
  | nil => cases ρ with
    | nil => trivial
    | cons _ _ => simp at hl
  | cons m E ih => cases ρ with
    | nil => simp at hl
    | cons s ρ => exact ⟨h 0 m s (by simp) (by simp), ih (by simpa using hl) fun i m' s' e1 e2 => h (i + 1) m' s' (by simpa using e1) (by simpa using e2)⟩
theorem Ec.at (h : Ec E ρ) {m : Ms} {s : Sl} (e : E[i]? = some m) (e2 : ρ[i]? = some s) : Mo m s := by
  obtain ⟨s', e3, q⟩ := h.get e
  rw [e2] at e3; cases e3; exact q
theorem unl_k (hl : LkOk li l) (h : Ec E ρ) : Ec (unlE li E) (unl l ρ) := by
  have key : ∀ i, Ec (unlE (.sure i) E) (unl (some i) ρ) ∧ Ec (unlE (.may i) E) (unl (some i) ρ) ∧ Ec (unlE (.may i) E) ρ := fun i => by
    unfold unlE unl
    simp only
    cases em : E[i]? with
    | none =>
      have hn : ρ[i]? = none := by rw [List.getElem?_eq_none_iff] at em ⊢; rw [← h.len]; exact em
      simp only [hn]; exact ⟨h, h, h⟩
    | some m =>
      obtain ⟨s, e1, e2⟩ := h.get em
      simp only [e1]
      cases m with
      | any => cases s <;> first | exact ⟨h, h, h⟩ | exact ⟨h.setR em trivial, h.setR em trivial, h⟩
      | fz d => have e2 : s = .fz d := e2; subst e2; exact ⟨h, h, h⟩
      | ow d => have e2 : s = .ow d := e2; subst e2; exact ⟨h, h, h⟩
      | lk d =>
        have e2 : s = .lk d := e2; subst e2
        refine ⟨h.set i rfl, h.set i (.inr (.inl rfl)), ?_⟩
        have := h.set (m := .rd d) (s := .lk d) i (.inr (.inr rfl))
        rwa [set_self' e1] at this
      | rd d => rcases e2 with e2 | e2 | e2 <;> subst e2 <;> first | exact ⟨h, h, h⟩ | exact ⟨h.setR em (.inr (.inl rfl)), h.setR em (.inr (.inl rfl)), h⟩
  cases li with
  | no => have hl : l = none := hl; subst hl; exact h
  | sure i => have hl : l = some i := hl; subst hl; exact (key i).1
  | may i => rcases hl with hl | hl <;> subst hl
             · exact (key i).2.2
             · exact (key i).2.1
/-! ### what is walked -/
def Ew (E : List Ms) (w : M Wk) (ds : List D) (li : Lki) (E' : List Ms) : Prop := ∀ ρ, Ec E ρ → ∃ l ρ1, w ρ = .ok (ds, l) ρ1 ∧ LkOk li l ∧ Ec E' ρ1
theorem wkOf_eq (h : seqItems d = some ds) : wkOf l d ρ = .ok (ds, l) ρ := by unfold wkOf opt; rw [h]; rfl
theorem ew_val (ha : Ev E e .val d E1) (h : seqItems d = some ds) : Ew E (dWk e) ds .no E1 := fun ρ q => by
  obtain ⟨r, ρ1, e1, q1, c1⟩ := ha.2 ρ q
  have q1 : r = .fz d := q1; subst q1
  exact ⟨none, ρ1, by unfold dWk; rw [bd_eq e1]; exact wkOf_eq h, rfl, c1⟩
theorem ew_nam (ha : Ev E e (.nam i) d E1) (h : seqItems d = some ds) : Ew E (dWk e) ds (.may i) E1 := fun ρ q => by
  obtain ⟨r, ρ1, e1, q1, c1⟩ := ha.2 ρ q
  have hr : RdR E1[i]? d := ha.1
  rcases q1 with q1 | q1 <;> subst q1
  · exact ⟨none, ρ1, by unfold dWk; rw [bd_eq e1]; exact wkOf_eq h, .inl rfl, c1⟩
  · have go : ∀ l ρ2, wkOf l d ρ2 = .ok (ds, l) ρ2 := fun l ρ2 => wkOf_eq h
    rcases c1.rd hr.m with z | z | z
    · exact ⟨none, ρ1, by unfold dWk; rw [bd_eq e1]; simp only [z]; exact go _ _, .inl rfl, c1⟩
    · refine ⟨some i, ρ1.set i (.lk d), by unfold dWk; rw [bd_eq e1]; simp only [z]; exact go _ _, .inr rfl, ?_⟩
      cases em : E1[i]? with
      | none => rw [em] at hr; exact hr.elim
      | some m =>
        rw [em] at hr
        obtain ⟨s', z1, z2⟩ := c1.get em
        rw [z] at z1; cases z1
        cases m with
        | fz d' => have z2 : Sl.ow d = .fz d' := z2; cases z2
        | rd d' => have hr : d' = d := hr; subst hr; exact c1.setR em (.inr (.inr rfl))
        | _ => exact hr.elim
    · exact ⟨none, ρ1, by unfold dWk; rw [bd_eq e1]; simp only [z]; exact go _ _, .inl rfl, c1⟩
theorem ew_ow (ha : Ev E e (.own i) d E1) (hi : E1[i]? = some (.ow d)) (h : seqItems d = some ds) : Ew E (dWk e) ds (.sure i) (E1.set i (.lk d)) := fun ρ q => by
  obtain ⟨r, ρ1, e1, q1, c1⟩ := ha.2 ρ q
  have q1 : r = .nm i := q1; subst q1
  obtain ⟨s, z, z2⟩ := c1.get hi
  have z2 : s = .ow d := z2; subst z2
  exact ⟨some i, ρ1.set i (.lk d), by unfold dWk; rw [bd_eq e1]; simp only [z]; exact wkOf_eq h, rfl, c1.set i rfl⟩
theorem ew_rng1 {n : Int} (ha : Ev E e k (.int n) E1) (h1 : -4611686018427387904 ≤ n) (h2 : n < 4611686018427387904) : Ew E (dRng1 (dCons e dNil)) ((List.range n.toNat).map fun k => .int (k : Nat)) .no E1 := fun ρ q => by
  obtain ⟨rs, ρ1, e1, q1, c1⟩ := ea_cons ha ea_nil ρ q
  refine ⟨none, ρ1, ?_, rfl, c1⟩
  unfold dRng1
  rw [bd_eq e1, bd_eq (lookA_k q1 ⟨ha.1, trivial⟩ c1)]
  exact opt_eq (rng1_ok h1 h2)
theorem ew_rng2 {lo hi : Int} {eb : M Rs} (ha : Ev E e ka (.int lo) E1) (hb : Ev E1 eb kb (.int hi) E2) (h1 : -4611686018427387904 ≤ lo) (h2 : lo < 4611686018427387904) (h3 : -4611686018427387904 ≤ hi) (h4 : hi < 4611686018427387904) (hr : Rdk ka (.int lo) E2 := by repeat (first | exact True.intro | exact rfl | apply And.intro)) : Ew E (dRng2 (dCons e (dCons eb dNil))) ((List.range (hi - lo).toNat).map fun k => .int (lo + (k : Nat))) .no E2 := fun ρ q => by
  obtain ⟨rs, ρ1, e1, q1, c1⟩ := ea_cons ha (ea_cons hb ea_nil) ρ q
  refine ⟨none, ρ1, ?_, rfl, c1⟩
  unfold dRng2
  rw [bd_eq e1, bd_eq (lookA_k q1 ⟨hr, hb.1, trivial⟩ c1)]
  exact opt_eq (rng2_ok h1 h2 h3 h4)
/-! ### targets -/
def Tg (g : DG) (d : D) (E E' : List Ms) : Prop := ∀ ρ, Ec E ρ → ∃ ρ', g d ρ = some ρ' ∧ Ec E' ρ'
def TgA (g : DGs) (ds : List D) (E E' : List Ms) : Prop := ∀ ρ, Ec E ρ → ∃ ρ', g ds ρ = some ρ' ∧ Ec E' ρ'
theorem tg_n (hi : i < E.length := by first | decide | exact of_decide_eq_true rfl) : Tg (gN i) d E (E.set i (.fz d)) := fun ρ q => ⟨_, gN_ok (by rw [← q.len]; exact hi), q.set i rfl⟩
theorem tg_nil : TgA gsN [] E E := fun ρ q => ⟨ρ, rfl, q⟩
theorem tg_cons {g : DG} {gs : DGs} (h : Tg g d E E1) (h2 : TgA gs ds E1 E2) : TgA (gsC g gs) (d :: ds) E E2 := fun ρ q => by
  obtain ⟨ρ1, e1, c1⟩ := h ρ q
  obtain ⟨ρ2, e2, c2⟩ := h2 ρ1 c1
  exact ⟨ρ2, by unfold gsC; simp only [e1, e2], c2⟩
theorem tg_t {n : Nat} {gs : DGs} (h : TgA gs ds E E1) (hn : ds.length = n := by rfl) : Tg (gT n gs) (.tuple ds) E E1 := fun ρ q => by
  obtain ⟨ρ1, e1, c1⟩ := h ρ q
  exact ⟨ρ1, by rw [gT_ok hn]; exact e1, c1⟩
/-! ### for -/
def Pn {σ : Type} (Eσ : σ → List Ms) : σ → SR → Prop := fun s o => match o with
  | .nx ρ => Ec (Eσ s) ρ
  | .ct ρ => Ec (Eσ s) ρ
  | _ => False
theorem sg_passN {σ : Type} {Eσ : σ → List Ms} {w : σ} (h : Le E (Eσ w)) : Sg E dPass (Pn Eσ) w := fun ρ e => h.ec e
theorem for_pure {α σ : Type} {g : DG} {enc : α → D} {Eσ : σ → List Ms} {step : σ → α → σ} {I : Nat → σ → Prop} {xs : List α}
    (hb : ∀ k x s, xs[k]? = some x → I k s → ∃ E2, Tg g (enc x) (Eσ s) E2 ∧ Sg E2 body (Pn Eσ) (step s x)) (hi : ∀ k x s, xs[k]? = some x → I k s → I (k + 1) (step s x)) :
    ∀ (ys : List α) (k : Nat) (s : σ) (ρ : List Sl), xs.drop k = ys → I k s → Ec (Eσ s) ρ → ∃ ρ', forGo g body (ys.map enc) ρ = .nx ρ' ∧ Ec (Eσ (ys.foldl step s)) ρ' ∧ I (k + ys.length) (ys.foldl step s)
  | [], k, s, ρ, _, hI, e => ⟨ρ, rfl, e, hI⟩
  | y :: ys, k, s, ρ, hd, hI, e => by
    have hx : xs[k]? = some y := by
      have := congrArg (fun l => l[0]?) hd
      simpa using this
    have hd' : xs.drop (k + 1) = ys := by
      have := congrArg (List.drop 1) hd
      simpa using this
    obtain ⟨E2, h1, h2⟩ := hb k y s hx hI
    obtain ⟨ρ1, e1, c1⟩ := h1 ρ e
    have q := h2 ρ1 c1
    have fin : ∀ ρ2, Ec (Eσ (step s y)) ρ2 → ∃ ρ', forGo g body (ys.map enc) ρ2 = .nx ρ' ∧ Ec (Eσ ((y :: ys).foldl step s)) ρ' ∧ I (k + (y :: ys).length) ((y :: ys).foldl step s) := fun ρ2 c2 => by
      obtain ⟨ρ3, e3, c3, i3⟩ := for_pure hb hi ys (k + 1) (step s y) ρ2 hd' (hi k y s hx hI) c2
      exact ⟨ρ3, e3, c3, by rw [List.length_cons, show k + (ys.length + 1) = k + 1 + ys.length by omega]; exact i3⟩
    rw [List.map_cons]
    unfold forGo
    simp only [e1]
    cases eb : body ρ1 with
    | nx ρ2 => rw [eb] at q; exact fin ρ2 q
    | ct ρ2 => rw [eb] at q; exact fin ρ2 q
    | _ => rw [eb] at q; exact q.elim
theorem sg_for {α σ : Type} {w : M Wk} {g : DG} (enc : α → D) {xs : List α} (Eσ : σ → List Ms) {s0 : σ} {step : σ → α → σ} (I : Nat → σ → Prop) {o : σ → τ}
    (hw : Ew E w (xs.map enc) li E1) (h0 : Le E1 (Eσ s0)) (i0 : I 0 s0)
    (hb : ∀ k x s, xs[k]? = some x → I k s → ∃ E2, Tg g (enc x) (Eσ s) E2 ∧ Sg E2 body (Pn Eσ) (step s x)) (hi : ∀ k x s, xs[k]? = some x → I k s → I (k + 1) (step s x))
    (hr : ∀ s, s = xs.foldl step s0 → I xs.length s → Sg (unlE li (Eσ s)) rest P (o s)) : Sg E (dSeq (dFor w g body) rest) P (Let (xs.foldl step s0) o) := fun ρ e => by
  obtain ⟨l, ρ1, e1, hl, c1⟩ := hw ρ e
  obtain ⟨ρ2, e2, c2, i2⟩ := for_pure hb hi xs 0 s0 ρ1 rfl i0 (h0.ec c1)
  rw [seq_nx (ρ1 := unl l ρ2) (by unfold dFor; rw [e1]; simp only [e2]; rfl)]
  exact hr _ rfl (by simpa using i2) _ (unl_k hl c2)
/-! ### while -/
def wh {σ : Type} (c : σ → Bool) (f : σ → σ) : Nat → σ → σ
  | 0, s => s
  | n + 1, s => if c s = true then wh c f n (f s) else s
/-! ### comprehensions -/
def wipeE : List Nat → List Ms → List Ms
  | [], E => E
  | i :: is, E => (wipeE is E).set i .any
theorem wipe_k : ∀ {own : List Nat}, Ec E ρ → Ec (wipeE own E) (wipeR own ρ)
  | [], h => h
  | _ :: _, h => (wipe_k h).set _ trivial
theorem wipeE_len : ∀ own, (wipeE own E).length = E.length
  | [] => rfl
  | i :: is => by unfold wipeE; rw [List.length_set, wipeE_len is]
theorem wipeE_out {i : Nat} : ∀ {own : List Nat}, i ∉ own → (wipeE own E)[i]? = E[i]?
  | [], h => rfl
  | j :: js, h => by
    unfold wipeE
    have hj : j ≠ i := fun z => h (z ▸ List.mem_cons_self)
    rw [List.getElem?_set_ne hj]
    exact wipeE_out fun z => h (List.mem_cons_of_mem _ z)
theorem rest_k {own : List Nat} (h1 : Ec E ρ1) (h2 : Ec (wipeE own E2) ρ2) (hE : wipeE own E2 = wipeE own E) : Ec E (restore own ρ1 ρ2) := by
  have hl : ρ2.length = ρ1.length := by rw [← h1.len, ← h2.len, hE, wipeE_len]
  refine Ec.pt (by rw [restore_len hl, h1.len]) fun i m s e1 e2 => ?_
  have hi : i < ρ1.length := by rw [← h1.len]; exact (List.getElem?_eq_some_iff.mp e1).1
  by_cases hm : i ∈ own
  · rw [restore_in hl hi hm] at e2; exact h1.at e1 e2
  · rw [restore_out hm] at e2
    refine h2.at (i := i) ?_ e2
    rw [hE, wipeE_out hm]; exact e1
theorem lc_pure {α : Type} {own : List Nat} {g : DG} {tt : M Bool} {te : M Rs} {enc : α → D} {p : α → Bool} {fe : α → D} {Eb : List Ms} :
    ∀ (xs : List α), (∀ x ∈ xs, ∃ E2, Tg g (enc x) Eb E2 ∧ Tj E2 tt (p x) E2 ∧ (p x = false → Le (wipeE own E2) Eb) ∧ (p x = true → ∃ k E3, Ev E2 te k (fe x) E3 ∧ Le (wipeE own (frzE k (fe x) E3)) Eb)) →
    ∀ (acc : List D) (ρ : List Sl), Ec Eb ρ → ∃ ρ', lcGo own g tt te (xs.map enc) acc ρ = .ok (acc ++ (xs.filter p).map fe) ρ' ∧ Ec Eb ρ'
  | [], _, acc, ρ, e => ⟨ρ, by simp [lcGo, pr], e⟩
  | x :: xs, h, acc, ρ, e => by
    obtain ⟨E2, h1, h2, h4, h3⟩ := h x (by simp)
    have ih := lc_pure xs fun y hy => h y (by simp [hy])
    obtain ⟨ρ1, e1, c1⟩ := h1 ρ e
    obtain ⟨ρ2, e2, c2⟩ := h2 ρ1 c1
    rw [List.map_cons]
    unfold lcGo
    simp only [e1, e2]
    rw [List.filter_cons]
    cases hp : p x with
    | false =>
      obtain ⟨ρ3, e3, c3⟩ := ih acc _ ((h4 hp).ec (wipe_k c2))
      exact ⟨ρ3, e3, c3⟩
    | true =>
      obtain ⟨k, E3, q1, q2⟩ := h3 hp
      obtain ⟨r, ρ3, e3, q3, c3⟩ := q1.2 ρ2 c2
      obtain ⟨ρ4, e4, c4⟩ := frz_k q3 q1.1 c3
      obtain ⟨ρ5, e5, c5⟩ := ih (acc ++ [fe x]) _ (q2.ec (wipe_k c4))
      simp only [bd_eq e3, e4]
      exact ⟨ρ5, by rw [e5, List.append_assoc]; rfl, c5⟩
theorem ev_lc {α β : Type} {own : List Nat} {w : M Wk} {g : DG} {tt : M Bool} {te : M Rs} (enc : α → D) (encB : β → D) {xs : List α} {p : α → Bool} {fe : α → β}
    (hw : Ew E w (xs.map enc) li E1) (hsz : xs.length ≤ 16777216)
    (hb : ∀ x ∈ xs, ∃ E2, Tg g (enc x) (wipeE own E1) E2 ∧ Tj E2 tt (p x) E2 ∧ (p x = false → Le (wipeE own E2) (wipeE own E1)) ∧ (p x = true → ∃ k E3, Ev E2 te k (encB (fe x)) E3 ∧ Le (wipeE own (frzE k (encB (fe x)) E3)) (wipeE own E1))) :
    Ev E (dLc own w g tt te) .new (.list (((xs.filter p).map fe).map encB)) (unlE li E1) := ⟨trivial, fun ρ e => by
  obtain ⟨l, ρ1, e1, hl, c1⟩ := hw ρ e
  obtain ⟨ρ2, e2, c2⟩ := lc_pure (fe := fun x => encB (fe x)) xs hb [] _ (wipe_k (own := own) c1)
  refine ⟨_, _, ?_, rfl, unl_k hl (rest_k c1 c2 rfl)⟩
  unfold dLc
  simp only [e1, e2]
  rw [if_pos (by rw [List.length_map, sizeLine_eq]; exact hsz), List.nil_append, List.map_map]; rfl⟩
theorem ev_lcY {α β : Type} {own : List Nat} {w : M Wk} {g : DG} {te : M Rs} (enc : α → D) (encB : β → D) {xs : List α} {fe : α → β}
    (hw : Ew E w (xs.map enc) li E1) (hsz : xs.length ≤ 16777216)
    (hb : ∀ x ∈ xs, ∃ E2, Tg g (enc x) (wipeE own E1) E2 ∧ ∃ k E3, Ev E2 te k (encB (fe x)) E3 ∧ Le (wipeE own (frzE k (encB (fe x)) E3)) (wipeE own E1)) :
    Ev E (dLc own w g dYes te) .new (.list ((xs.map fe).map encB)) (unlE li E1) := by
  have := ev_lc (p := fun _ => true) (tt := dYes) enc encB (fe := fe) hw hsz fun x hx => by
    obtain ⟨E2, h1, h2⟩ := hb x hx
    exact ⟨E2, h1, fun ρ e => ⟨ρ, rfl, e⟩, (fun z => nomatch z), fun _ => h2⟩
  rwa [filter_yes] at this
/-- with a state that goes on -/
def mapS {α β σ : Type} (f : σ → α → β × σ) : σ → List α → List β × σ
  | s, [] => ([], s)
  | s, x :: xs => ((f s x).1 :: (mapS f (f s x).2 xs).1, (mapS f (f s x).2 xs).2)
theorem lc_st {α β σ : Type} {own : List Nat} {g : DG} {te : M Rs} {enc : α → D} {encB : β → D} {fe : σ → α → β × σ} {Eb : σ → List Ms} :
    ∀ (xs : List α), (∀ x ∈ xs, ∀ s, ∃ E2, Tg g (enc x) (Eb s) E2 ∧ ∃ k E3, Ev E2 te k (encB (fe s x).1) E3 ∧ Le (wipeE own (frzE k (encB (fe s x).1) E3)) (Eb (fe s x).2)) →
    ∀ (s : σ) (acc : List D) (ρ : List Sl), Ec (Eb s) ρ → ∃ ρ', lcGo own g dYes te (xs.map enc) acc ρ = .ok (acc ++ (mapS fe s xs).1.map encB) ρ' ∧ Ec (Eb (mapS fe s xs).2) ρ'
  | [], _, s, acc, ρ, e => ⟨ρ, by simp [lcGo, pr, mapS], e⟩
  | x :: xs, h, s, acc, ρ, e => by
    obtain ⟨E2, h1, k, E3, q1, q2⟩ := h x (by simp) s
    have ih := lc_st xs fun y hy => h y (by simp [hy])
    obtain ⟨ρ1, e1, c1⟩ := h1 ρ e
    obtain ⟨r, ρ3, e3, q3, c3⟩ := q1.2 ρ1 c1
    obtain ⟨ρ4, e4, c4⟩ := frz_k q3 q1.1 c3
    obtain ⟨ρ5, e5, c5⟩ := ih (fe s x).2 (acc ++ [encB (fe s x).1]) _ (q2.ec (wipe_k c4))
    rw [List.map_cons]
    unfold lcGo
    simp only [e1, show dYes ρ1 = .ok true ρ1 from rfl, bd_eq e3, e4]
    exact ⟨ρ5, by rw [e5, List.append_assoc]; rfl, c5⟩
theorem ev_lcS {α β σ : Type} {own : List Nat} {w : M Wk} {g : DG} {te : M Rs} (enc : α → D) (encB : β → D) (Eσ : σ → List Ms) {s0 : σ} {xs : List α} {fe : σ → α → β × σ}
    (hw : Ew E w (xs.map enc) li (Eσ s0)) (hsz : xs.length ≤ 16777216) (hlen : ∀ s s', (Eσ s).length = (Eσ s').length := by intro _ _; rfl) (hrest : ∀ s s' i, i ∈ own → (Eσ s)[i]? = (Eσ s')[i]? := by intro _ _ i h; simp at h; rcases h with h | h <;> subst h <;> rfl)
    (hb : ∀ x ∈ xs, ∀ s, ∃ E2, Tg g (enc x) (wipeE own (Eσ s)) E2 ∧ ∃ k E3, Ev E2 te k (encB (fe s x).1) E3 ∧ Le (wipeE own (frzE k (encB (fe s x).1) E3)) (wipeE own (Eσ (fe s x).2))) :
    Ev E (dLc own w g dYes te) .new (.list ((mapS fe s0 xs).1.map encB)) (unlE li (Eσ (mapS fe s0 xs).2)) := ⟨trivial, fun ρ e => by
  obtain ⟨l, ρ1, e1, hl, c1⟩ := hw ρ e
  obtain ⟨ρ2, e2, c2⟩ := lc_st (Eb := fun s => wipeE own (Eσ s)) xs hb s0 [] _ (wipe_k (own := own) c1)
  have hl2 : ρ2.length = ρ1.length := by rw [← c1.len, ← c2.len, wipeE_len, hlen]
  have c3 : Ec (Eσ (mapS fe s0 xs).2) (restore own ρ1 ρ2) := by
    refine Ec.pt (by rw [restore_len hl2, ← c1.len, hlen]) fun i m s q1 q2 => ?_
    have hi : i < ρ1.length := by rw [← c1.len, hlen s0 (mapS fe s0 xs).2]; exact (List.getElem?_eq_some_iff.mp q1).1
    by_cases hm : i ∈ own
    · rw [restore_in hl2 hi hm] at q2; exact c1.at ((hrest _ _ i hm).trans q1) q2
    · rw [restore_out hm] at q2
      exact c2.at (i := i) (by rw [wipeE_out hm]; exact q1) q2
  refine ⟨_, _, ?_, rfl, unl_k hl c3⟩
  unfold dLc
  simp only [e1, e2]
  rw [if_pos (by rw [List.length_map, sizeLine_eq]; exact hsz), List.nil_append]⟩
end
end TL
namespace TL
open PySem L2 DL
section
variable {E E1 E2 E3 : List Ms} {m a b c e : M Rs} {k ka kb kc : Kd} {d da db dc : D} {i j : Nat} {f : M (List Rs)} {ks : List Kd} {ds : List D} {τ : Type} {P : τ → SR → Prop} {rest s s1 s2 body : DS} {v x y : τ} {li : Lki} {l : Option Nat} {ρ ρ1 ρ2 : List Sl}
/-! ### calls -/
def nmI : List Kd → List Nat
  | .nam i :: ks => i :: nmI ks
  | .own i :: ks => i :: nmI ks
  | _ :: ks => nmI ks
  | [] => []
def OwE : Option Ms → D → Ms → Prop
  | some (.ow e), d, m => e = d ∧ Lm (.ow d) m
  | some (.lk e), d, m => e = d ∧ Lm (.lk d) m
  | _, _, _ => False
def RdX : Option Ms → D → Prop
  | some (.rd e), d => e = d
  | _, _ => False
theorem RdX.rdm {o : Option Ms} {d : D} (h : RdX o d) : RdM o d := by
  cases o with
  | none => exact h
  | some m => cases m <;> first | exact h | exact h.elim
/-- one argument: how it is lent, what it is, the slots ahead, what the def asks, what it leaves -/
def Nam2 (o : Option Ms) (d : D) (m m' : Ms) : Bool → Prop
  | true => RdX o d ∧ Lm (.rd d) m ∧ Lm m' (.rd d)
  | false => RdR o d ∧ Lm (.fz d) m
def Own2 (o : Option Ms) (d : D) (m : Ms) : Bool → Prop
  | true => OwE o d m
  | false => RdM o d ∧ Lm (.fz d) m
def Arg1 (l : Bool) (k : Kd) (d : D) (E : List Ms) (m m' : Ms) : Prop := match k with
  | .val => Lm (.fz d) m
  | .new => Lm (.ow d) m
  | .vn => Lm (.rd d) m
  | .nam i => Nam2 E[i]? d m m' l
  | .own i => Own2 E[i]? d m l
def ArgOk : List Bool → List Kd → List D → List Ms → List Ms → List Ms → Prop
  | l :: ls, k :: ks, d :: ds, E, m :: ins, m' :: outs => Arg1 l k d E m m' ∧ ArgOk ls ks ds E ins outs
  | [], [], [], _, [], [] => True
  | _, _, _, _, _, _ => False
def argE : List Bool → List Kd → List D → List Ms → List Ms
  | false :: ls, .own i :: ks, d :: ds, E => argE ls ks ds (E.set i (.fz d))
  | _ :: ls, _ :: ks, _ :: ds, E => argE ls ks ds E
  | _, _, _, E => E
def wbE : List Bool → List Kd → List Ms → List Ms → List Ms
  | true :: ls, .own i :: ks, m :: outs, E => wbE ls ks outs (E.set i m)
  | _ :: ls, _ :: ks, _ :: outs, E => wbE ls ks outs E
  | _, _, _, E => E
theorem Arg1.frame {l : Bool} {m m' n : Ms} (h : Arg1 l k d E m m') (hi : ∀ j ∈ nmI [k], j ≠ i) : Arg1 l k d (E.set i n) m m' := by
  cases k with
  | nam j =>
    have : i ≠ j := fun z => hi j (by simp [nmI]) z.symm
    show Nam2 (E.set i n)[j]? d m m' l
    rw [List.getElem?_set_ne this]; exact h
  | own j =>
    have : i ≠ j := fun z => hi j (by simp [nmI]) z.symm
    show Own2 (E.set i n)[j]? d m l
    rw [List.getElem?_set_ne this]; exact h
  | _ => exact h
theorem nmI_cons : nmI (k :: ks) = nmI [k] ++ nmI ks := by cases k <;> rfl
theorem ArgOk.frame {n : Ms} : ∀ {ls : List Bool} {ks : List Kd} {ds : List D} {ins outs : List Ms}, ArgOk ls ks ds E ins outs → i ∉ nmI ks → ArgOk ls ks ds (E.set i n) ins outs
  | l :: ls, k :: ks, d :: ds, m :: ins, m' :: outs, h, hi => by
    rw [nmI_cons, List.mem_append] at hi
    exact ⟨Arg1.frame h.1 fun j hj z => hi (.inl (z ▸ hj)), ArgOk.frame h.2 fun z => hi (.inr z)⟩
  | [], [], [], [], [], _, _ => trivial
  | [], [], [], _ :: _, _, h, _ => h.elim
  | [], [], [], [], _ :: _, h, _ => h.elim
  | [], [], _ :: _, _, _, h, _ => h.elim
  | [], _ :: _, _, _, _, h, _ => h.elim
  | _ :: _, [], _, _, _, h, _ => h.elim
  | _ :: _, _ :: _, [], _, _, h, _ => h.elim
  | _ :: _, _ :: _, _ :: _, [], _, h, _ => h.elim
  | _ :: _, _ :: _, _ :: _, _ :: _, [], h, _ => h.elim
/-- one argument as it is lent -/
def Re1 (l : Bool) (k : Kd) (m : Ms) (ρ : List Sl) : Rs → Prop
  | .fz d => Mo m (.fz d) ∧ (l = true → ∀ i, k ≠ .own i)
  | .ow d => Mo m (.ow d) ∧ (∀ i, k ≠ .own i)
  | .nm i => l = true ∧ (k = .nam i ∨ k = .own i) ∧ ∃ s, ρ[i]? = some s ∧ Mo m s ∧ ((∃ d, s = .ow d) ∨ ∃ d, s = .lk d)
theorem argS_k {l : Bool} {r : Rs} {m m' : Ms} (h : Kr k d r) (e : Ec E ρ) (q : Arg1 l k d E m m') : ∃ r' ρ', argS l r ρ = .ok r' ρ' ∧ Ec (argE [l] [k] [d] E) ρ' ∧ Re1 l k m ρ' r' ∧ (∀ j, j ∉ nmI [k] → ρ'[j]? = ρ[j]?) := by
  cases k with
  | val => have h : r = .fz d := h; subst h; cases l <;> exact ⟨_, ρ, rfl, e, ⟨Lm.mo q rfl, fun _ _ z => nomatch z⟩, fun _ _ => rfl⟩
  | new => have h : r = .ow d := h; subst h; cases l <;> exact ⟨_, ρ, rfl, e, ⟨Lm.mo q rfl, fun _ z => nomatch z⟩, fun _ _ => rfl⟩
  | vn =>
    rcases h with h | h <;> subst h
    · cases l <;> exact ⟨_, ρ, rfl, e, ⟨Lm.mo q (.inl rfl), fun _ _ z => nomatch z⟩, fun _ _ => rfl⟩
    · cases l <;> exact ⟨_, ρ, rfl, e, ⟨Lm.mo q (.inr (.inl rfl)), fun _ z => nomatch z⟩, fun _ _ => rfl⟩
  | nam i =>
    have fzk : ∀ (hl : l = false), Ec E (ρ.set i (.fz d)) := fun hl => by
      subst hl
      obtain ⟨q1, q2⟩ := q
      cases em : E[i]? with
      | none => rw [em] at q1; exact q1.elim
      | some m =>
        rw [em] at q1
        cases m with
        | fz d' => have q1 : d' = d := q1; subst q1; exact e.setR em rfl
        | rd d' => have q1 : d' = d := q1; subst q1; exact e.setR em (.inl rfl)
        | _ => exact q1.elim
    have aE : argE [l] [.nam i] [d] E = E := by cases l <;> rfl
    rw [aE]
    cases l with
    | true =>
      obtain ⟨q1, q2, q3⟩ := q
      rcases h with h | h <;> subst h
      · exact ⟨_, ρ, rfl, e, ⟨Lm.mo q2 (.inl rfl), fun _ _ z => nomatch z⟩, fun _ _ => rfl⟩
      · rcases e.rd (RdX.rdm q1) with z | z | z
        · exact ⟨.fz d, ρ, by unfold argS; simp only [z], e, ⟨Lm.mo q2 (.inl rfl), fun _ _ z => nomatch z⟩, fun _ _ => rfl⟩
        · exact ⟨.nm i, ρ, by unfold argS; simp only [z, if_true], e, ⟨rfl, .inl rfl, _, z, Lm.mo q2 (.inr (.inl rfl)), .inl ⟨d, rfl⟩⟩, fun _ _ => rfl⟩
        · exact ⟨.nm i, ρ, by unfold argS; simp only [z, if_true], e, ⟨rfl, .inl rfl, _, z, Lm.mo q2 (.inr (.inr rfl)), .inr ⟨d, rfl⟩⟩, fun _ _ => rfl⟩
    | false =>
      obtain ⟨q1, q2⟩ := q
      have fr : ∀ j, j ∉ nmI [.nam i] → (ρ.set i (.fz d))[j]? = ρ[j]? := fun j hj => List.getElem?_set_ne fun z => hj (by subst z; simp [nmI])
      rcases h with h | h <;> subst h
      · exact ⟨_, ρ, rfl, e, ⟨Lm.mo q2 rfl, fun z => nomatch z⟩, fun _ _ => rfl⟩
      · rcases e.rd q1.m with z | z | z
        · exact ⟨.fz d, ρ, by unfold argS; simp only [z], e, ⟨Lm.mo q2 rfl, fun z => nomatch z⟩, fun _ _ => rfl⟩
        · exact ⟨.fz d, _, by unfold argS; simp only [z]; rfl, fzk rfl, ⟨Lm.mo q2 rfl, fun z => nomatch z⟩, fr⟩
        · exact ⟨.fz d, _, by unfold argS; simp only [z]; rfl, fzk rfl, ⟨Lm.mo q2 rfl, fun z => nomatch z⟩, fr⟩
  | own i =>
    have h : r = .nm i := h; subst h
    cases l with
    | true =>
      have q : OwE E[i]? d m := q
      cases em : E[i]? with
      | none => rw [em] at q; exact q.elim
      | some m0 =>
        rw [em] at q
        obtain ⟨s, z1, z2⟩ := e.get em
        cases m0 with
        | ow d' =>
          have z2 : s = .ow d' := z2; subst z2
          obtain ⟨q1, q2⟩ := q
          exact ⟨.nm i, ρ, by unfold argS; simp only [z1, if_true], e, ⟨rfl, .inr rfl, _, z1, by subst q1; exact Lm.mo q2 rfl, .inl ⟨_, rfl⟩⟩, fun _ _ => rfl⟩
        | lk d' =>
          have z2 : s = .lk d' := z2; subst z2
          obtain ⟨q1, q2⟩ := q
          exact ⟨.nm i, ρ, by unfold argS; simp only [z1, if_true], e, ⟨rfl, .inr rfl, _, z1, by subst q1; exact Lm.mo q2 rfl, .inr ⟨_, rfl⟩⟩, fun _ _ => rfl⟩
        | _ => exact q.elim
    | false =>
      obtain ⟨q1, q2⟩ := q
      have hz : Ec (E.set i (.fz d)) (ρ.set i (.fz d)) := e.set i rfl
      have fr : ∀ j, j ∉ nmI [.own i] → (ρ.set i (.fz d))[j]? = ρ[j]? := fun j hj => List.getElem?_set_ne fun z => hj (by subst z; simp [nmI])
      have ae : argE [false] [.own i] [d] E = E.set i (.fz d) := rfl
      rw [ae]
      rcases e.rd q1 with z | z | z
      · exact ⟨.fz d, ρ, by unfold argS; simp only [z], by rwa [set_self' z] at hz, ⟨Lm.mo q2 rfl, fun z => nomatch z⟩, fun _ _ => rfl⟩
      · exact ⟨.fz d, _, by unfold argS; simp only [z]; rfl, hz, ⟨Lm.mo q2 rfl, fun z => nomatch z⟩, fr⟩
      · exact ⟨.fz d, _, by unfold argS; simp only [z]; rfl, hz, ⟨Lm.mo q2 rfl, fun z => nomatch z⟩, fr⟩
def ReA : List Bool → List Kd → List Ms → List Sl → List Rs → Prop
  | l :: ls, k :: ks, m :: ms, ρ, r :: rs => Re1 l k m ρ r ∧ ReA ls ks ms ρ rs
  | [], [], [], _, [] => True
  | _, _, _, _, _ => False
theorem argE_cons {l : Bool} {ls : List Bool} : argE (l :: ls) (k :: ks) (d :: ds) E = argE ls ks ds (argE [l] [k] [d] E) := by
  cases l <;> cases k <;> rfl
theorem argE1_ok {l : Bool} {ls : List Bool} {ins outs : List Ms} (h : ArgOk ls ks ds E ins outs) (hn : ∀ j ∈ nmI [k], j ∉ nmI ks) : ArgOk ls ks ds (argE [l] [k] [d] E) ins outs := by
  cases l <;> cases k <;> first | exact h | exact ArgOk.frame h (hn _ (by simp [nmI]))
theorem argSA_k : ∀ {ls : List Bool} {ks : List Kd} {ds : List D} {rs : List Rs} {E ins outs : List Ms} {ρ : List Sl}, KrA ks ds rs → Ec E ρ → ArgOk ls ks ds E ins outs → (nmI ks).Nodup →
    ∃ rs' ρ', argSA ls rs ρ = .ok rs' ρ' ∧ Ec (argE ls ks ds E) ρ' ∧ ReA ls ks ins ρ' rs' ∧ (∀ j, j ∉ nmI ks → ρ'[j]? = ρ[j]?)
  | [], [], [], [], E, [], [], ρ, _, e, _, _ => ⟨[], ρ, rfl, e, trivial, fun _ _ => rfl⟩
  | l :: ls, k :: ks, d :: ds, r :: rs, E, m :: ins, m' :: outs, ρ, h, e, q, hn => by
    rw [nmI_cons, List.nodup_append] at hn
    obtain ⟨hn1, hn2, hn3⟩ := hn
    have hn3' : ∀ j ∈ nmI [k], j ∉ nmI ks := fun j hj z => hn3 j hj j z rfl
    obtain ⟨r', ρ1, e1, c1, w1, f1⟩ := argS_k h.1 e q.1
    obtain ⟨rs', ρ2, e2, c2, w2, f2⟩ := argSA_k h.2 c1 (argE1_ok (l := l) (d := d) q.2 hn3') hn2
    refine ⟨r' :: rs', ρ2, by unfold argSA; rw [bd_eq e1, bd_eq e2]; rfl, by rw [argE_cons]; exact c2, ⟨?_, w2⟩, fun j hj => ?_⟩
    · cases r' with
      | fz _ => exact w1
      | ow _ => exact w1
      | nm i =>
        obtain ⟨w3, w4, s, w5, w6⟩ := w1
        refine ⟨w3, w4, s, ?_, w6⟩
        rw [f2 i (hn3' i (by rcases w4 with w4 | w4 <;> subst w4 <;> simp [nmI]))]; exact w5
    · rw [nmI_cons, List.mem_append] at hj
      rw [f2 j fun z => hj (.inr z), f1 j fun z => hj (.inl z)]
  | [], [], [], _ :: _, _, _, _, _, h, _, _, _ => h.elim
  | [], [], [], [], _, _ :: _, _, _, _, _, h, _ => h.elim
  | [], [], [], [], _, [], _ :: _, _, _, _, h, _ => h.elim
  | _, [], _ :: _, _, _, _, _, _, h, _, _, _ => h.elim
  | _, _ :: _, [], _, _, _, _, _, h, _, _, _ => h.elim
  | _, _ :: _, _ :: _, [], _, _, _, _, h, _, _, _ => h.elim
  | [], _ :: _, _ :: _, _ :: _, _, _, _, _, _, _, h, _ => h.elim
  | _ :: _, [], [], _, _, _, _, _, _, _, h, _ => h.elim
  | _ :: _, _ :: _, _ :: _, _ :: _, _, [], _, _, _, _, h, _ => h.elim
  | _ :: _, _ :: _, _ :: _, _ :: _, _, _ :: _, [], _, _, _, h, _ => h.elim
theorem re_slots : ∀ {ls : List Bool} {ks : List Kd} {ins : List Ms} {rs : List Rs}, ReA ls ks ins ρ rs → Ec ins (rs.map (slotOf ρ)) ∧ rs.all (heldR ρ) = true ∧ ∀ i, (rs.any (isNm i)) = true → i ∈ nmI ks
  | [], [], [], [], _ => ⟨trivial, rfl, fun i h => by simp at h⟩
  | l :: ls, k :: ks, m :: ms, r :: rs, h => by
    obtain ⟨h1, h2⟩ := h
    obtain ⟨q1, q2, q3⟩ := re_slots h2
    rw [List.map_cons, List.all_cons]
    cases r with
    | fz d => exact ⟨⟨h1.1, q1⟩, by rw [q2]; rfl, fun i hi => by rw [nmI_cons, List.mem_append]; exact .inr (q3 i (by simpa [isNm] using hi))⟩
    | ow d => exact ⟨⟨h1.1, q1⟩, by rw [q2]; rfl, fun i hi => by rw [nmI_cons, List.mem_append]; exact .inr (q3 i (by simpa [isNm] using hi))⟩
    | nm j =>
      obtain ⟨_, w4, s, w5, w6, w7⟩ := h1
      refine ⟨⟨by unfold slotOf; simp only [w5]; exact w6, q1⟩, ?_, fun i hi => ?_⟩
      · rw [q2]
        unfold heldR
        rcases w7 with ⟨d, rfl⟩ | ⟨d, rfl⟩ <;> simp only [w5] <;> rfl
      · rw [nmI_cons, List.mem_append]
        rw [List.any_cons, Bool.or_eq_true] at hi
        rcases hi with hi | hi
        · have : i = j := by simpa [isNm] using hi
          subst this
          left; rcases w4 with w4 | w4 <;> subst w4 <;> simp [nmI]
        · exact .inr (q3 i hi)
  | [], [], [], _ :: _, h => h.elim
  | [], [], _ :: _, _, h => h.elim
  | [], _ :: _, _, _, h => h.elim
  | _ :: _, [], _, _, h => h.elim
  | _ :: _, _ :: _, [], _, h => h.elim
  | _ :: _, _ :: _, _ :: _, [], h => h.elim
theorem re_nm : ∀ {ls : List Bool} {ks : List Kd} {ins : List Ms} {rs : List Rs}, ReA ls ks ins ρ rs → (nmI ks).Nodup → nmOk rs = true
  | [], [], [], [], _, _ => rfl
  | l :: ls, k :: ks, m :: ms, r :: rs, h, hn => by
    rw [nmI_cons, List.nodup_append] at hn
    have ih := re_nm h.2 hn.2.1
    cases r with
    | fz d => exact ih
    | ow d => exact ih
    | nm j =>
      obtain ⟨_, w4, _⟩ := h.1
      show (!(rs.any (isNm j)) && nmOk rs) = true
      rw [ih, Bool.and_true, Bool.not_eq_true', Bool.eq_false_iff]
      intro z
      have h1 := (re_slots h.2).2.2 j z
      have h2 : j ∈ nmI [k] := by rcases w4 with w4 | w4 <;> subst w4 <;> simp [nmI]
      exact hn.2.2 j h2 j h1 rfl
  | [], [], [], _ :: _, h, _ => h.elim
  | [], [], _ :: _, _, h, _ => h.elim
  | [], _ :: _, _, _, h, _ => h.elim
  | _ :: _, [], _, _, h, _ => h.elim
  | _ :: _, _ :: _, [], _, h, _ => h.elim
  | _ :: _, _ :: _, _ :: _, [], h, _ => h.elim
theorem wb_k : ∀ {ks : List Kd} {ls : List Bool} {ds : List D} {ins outs : List Ms} {rs : List Rs} {E : List Ms} {ρ0 ρ ρp : List Sl}, ReA ls ks ins ρ0 rs → Ec outs ρp → Ec E ρ → ArgOk ls ks ds E ins outs → (nmI ks).Nodup → Ec (wbE ls ks outs E) (wb rs ρp ρ) := by
  intro ks
  induction ks with
  | nil =>
    intro ls ds ins outs rs E ρ0 ρ ρp h ho e q hn
    have e1 : wbE ls [] outs E = E := by cases ls <;> first | rfl | (rename_i l ls; cases l <;> rfl)
    have e2 : rs = [] := by
      cases ls with
      | nil => cases ins with
        | nil => cases rs with
          | nil => rfl
          | cons _ _ => exact h.elim
        | cons _ _ => exact h.elim
      | cons _ _ => exact h.elim
    rw [e1, e2]; exact e
  | cons k ks ih =>
    intro ls ds ins outs rs E ρ0 ρ ρp h ho e q hn
    cases ls with
    | nil => exact h.elim
    | cons l ls =>
    cases ds with
    | nil => exact q.elim
    | cons d ds =>
    cases ins with
    | nil => exact h.elim
    | cons m ins =>
    cases outs with
    | nil => exact q.elim
    | cons m' outs =>
    cases rs with
    | nil => exact h.elim
    | cons r rs =>
    cases ρp with
    | nil => exact ho.elim
    | cons s ρp =>
    rw [nmI_cons, List.nodup_append] at hn
    obtain ⟨hn1, hn2, hn3⟩ := hn
    have hn3' : ∀ j ∈ nmI [k], j ∉ nmI ks := fun j hj z => hn3 j hj j z rfl
    have triv : (∀ i, (l = true ∧ k = .own i) → False) → Ec E (wb [r] [s] ρ) → Ec (wbE (l :: ls) (k :: ks) (m' :: outs) E) (wb (r :: rs) (s :: ρp) ρ) := fun hk hh => by
      have e1 : wbE (l :: ls) (k :: ks) (m' :: outs) E = wbE ls ks outs E := by
        cases l <;> cases k <;> first | rfl | exact (hk _ ⟨rfl, rfl⟩).elim
      rw [e1]
      have e2 : wb (r :: rs) (s :: ρp) ρ = wb rs ρp (wb [r] [s] ρ) := by cases r <;> rfl
      rw [e2]
      exact ih h.2 ho.2 hh q.2 hn2
    cases r with
    | fz d' => exact triv (fun i z => h.1.2 z.1 i z.2) e
    | ow d' => exact triv (fun i z => h.1.2 i z.2) e
    | nm i =>
      obtain ⟨w3, w4, _⟩ := h.1
      subst w3
      rcases w4 with w4 | w4 <;> subst w4
      · refine triv (fun i z => nomatch z.2) ?_
        have q0 : Nam2 E[i]? d m m' true := q.1
        obtain ⟨q1, q2, q3⟩ := q0
        show Ec E (ρ.set i s)
        have ms : Mo (.rd d) s := Lm.mo q3 ho.1
        cases em : E[i]? with
        | none => rw [em] at q1; exact q1.elim
        | some m0 =>
          rw [em] at q1
          cases m0 with
          | rd d' => have q1 : d' = d := q1; subst q1; exact e.setR em ms
          | _ => exact q1.elim
      · show Ec (wbE ls ks outs (E.set i m')) (wb rs ρp (ρ.set i s))
        exact ih h.2 ho.2 (e.set i ho.1) (ArgOk.frame q.2 (hn3' i (by simp [nmI]))) hn2
theorem argE_okA : ∀ {ks : List Kd} {ls : List Bool} {ds : List D} {ins outs : List Ms} {E : List Ms}, ArgOk ls ks ds E ins outs → (nmI ks).Nodup → ArgOk ls ks ds (argE ls ks ds E) ins outs := by
  intro ks
  induction ks with
  | nil =>
    intro ls ds ins outs E q hn
    cases ls with
    | nil => exact q
    | cons l ls => cases ds <;> exact q.elim
  | cons k ks ih =>
    intro ls ds ins outs E q hn
    cases ls with
    | nil => exact q.elim
    | cons l ls =>
    cases ds with
    | nil => exact q.elim
    | cons d ds =>
    cases ins with
    | nil => exact q.elim
    | cons m ins =>
    cases outs with
    | nil => exact q.elim
    | cons m' outs =>
    rw [nmI_cons, List.nodup_append] at hn
    obtain ⟨hn1, hn2, hn3⟩ := hn
    have hn3' : ∀ j ∈ nmI [k], j ∉ nmI ks := fun j hj z => hn3 j hj j z rfl
    rw [argE_cons]
    have h1 := argE1_ok (l := l) (d := d) q.2 hn3'
    refine ⟨?_, ih h1 hn2⟩
    -- the first one through all
    have key : ∀ {ks : List Kd} {ls : List Bool} {ds : List D} {E : List Ms}, (∀ j ∈ nmI [k], j ∉ nmI ks) → Arg1 l k d E m m' → Arg1 l k d (argE ls ks ds E) m m' := by
      intro ks
      induction ks with
      | nil => intro ls ds E _ h; cases ls with
        | nil => exact h
        | cons l' ls => cases l' <;> exact h
      | cons k' ks ih2 =>
        intro ls ds E hj h
        cases ls with
        | nil => exact h
        | cons l' ls =>
          cases ds with
          | nil => cases l' <;> cases k' <;> exact h
          | cons d' ds =>
            rw [argE_cons]
            refine ih2 (fun j hj' z => hj j hj' (by rw [nmI_cons, List.mem_append]; exact .inr z)) ?_
            cases l' <;> cases k' <;> first | exact h | exact Arg1.frame h fun j hj' z => hj j hj' (by subst z; simp [nmI])
    refine key hn3' ?_
    have q1 := q.1
    cases l <;> cases k <;> first | exact q1 | skip
    rename_i i
    obtain ⟨q1, q2⟩ := q1
    refine ⟨?_, q2⟩
    show RdM (E.set i (.fz d))[i]? d
    exact RdM.set q1 q1
theorem ev_call {ls : List Bool} {sem : M Rs} {ins outs : List Ms} (hs : Ev ins sem k d outs) (ha : Ea E f ks ds E1) (hr : ArgOk ls ks ds E1 ins outs) (hn : (nmI ks).Nodup := by decide) (hk : ∀ d E, Rdk k d E := by intro _ _; exact True.intro) :
    Ev E (dCall ls sem f) k d (wbE ls ks outs (argE ls ks ds E1)) := ⟨hk _ _, fun ρ e => by
  obtain ⟨rs, ρ1, e1, q1, c1⟩ := ha ρ e
  obtain ⟨rs', ρ2, e2, c2, w2, _⟩ := argSA_k q1 c1 hr hn
  obtain ⟨z1, z2, _⟩ := re_slots w2
  obtain ⟨r, ρp, e3, q3, c3⟩ := hs.2 _ z1
  have hb := wb_k w2 c3 c2 (argE_okA hr hn) hn
  have hnm := re_nm w2 hn
  have go : ∀ (hh : (∃ d', r = .fz d') ∨ ∃ d', r = .ow d'), dCall ls sem f ρ = .ok r (wb rs' ρp ρ2) := fun hh => by
    unfold dCall
    rw [bd_eq e1, bd_eq e2]
    rw [if_pos (by rw [hnm, z2]; rfl)]
    rcases hh with ⟨d', rfl⟩ | ⟨d', rfl⟩ <;> simp only [e3]
  refine ⟨r, _, go ?_, q3, hb⟩
  cases k with
  | val => exact .inl ⟨_, q3⟩
  | new => exact .inr ⟨_, q3⟩
  | vn => exact q3.imp (fun z => ⟨_, z⟩) fun z => ⟨_, z⟩
  | nam i => exact (hk (.bool true) []).elim
  | own i => exact (hk (.bool true) []).elim⟩
end
end TL
namespace TL
open PySem L2 DL
section
variable {E E1 E2 E3 : List Ms} {m a b c e fi fe : M Rs} {k ka kb kc : Kd} {d d0 d1 d' dn da db dc : D} {i j : Nat} {f : M (List Rs)} {ks : List Kd} {ds : List D} {τ : Type} {P : τ → SR → Prop} {rest s s1 s2 body : DS} {v x y : τ} {li : Lki} {l : Option Nat} {ρ ρ1 ρ2 : List Sl}
/-- values told once, in the slots, too -/
theorem sg_gen {α : Type} (Ef : α → List Ms) {x : α} {o : α → τ} (h : ∀ y, y = x → Sg (Ef y) s P (o y)) : Sg (Ef x) s P (Let x o) := h x rfl
theorem Ec.own (h : Ec E ρ) (e : E[i]? = some (.ow d)) : ρ[i]? = some (.ow d) := by
  obtain ⟨s, e1, e2⟩ := h.get e
  have e2 : s = .ow d := e2; subst e2; exact e1
theorem Ec.good (h : Ec E ρ) (e : E[i]? = some (.fz d)) : ρ[i]? = some (.fz d) := by
  obtain ⟨s, e1, e2⟩ := h.get e
  have e2 : s = .fz d := e2; subst e2; exact e1
/-- a method that changes the list of a slot -/
theorem ev_mut {cc : D → Bool} {g : D → List D → Option (D × D)} {res : D} (hi : E[i]? = some (.ow d0)) (hc : cc d0 = true) (ha : Ea E f ks ds E1) (hr : RdkA ks ds E1) (hi1 : (frzEA ks ds E1)[i]? = some (.ow d1)) (hg : g d1 ds = some (d', res)) :
    Ev E (dMut i cc true g f) .val res ((frzEA ks ds E1).set i (.ow d')) := ⟨trivial, fun ρ q => by
  obtain ⟨rs, ρ1, e1, q1, c1⟩ := ha ρ q
  obtain ⟨ρ2, e2, c2⟩ := frzA_k q1 hr c1
  refine ⟨.fz res, ρ2.set i (.ow d'), ?_, rfl, c2.set i rfl⟩
  unfold dMut
  simp only [q.own hi, hc, if_true]
  rw [bd_eq e1, bd_eq e2]
  simp only [c2.own hi1, hg]⟩
/-- x += v -/
theorem sg_aug {g : G2} (hi : E[i]? = some (.fz da)) (he : Ev E fe k d E1) (hg : g da d = some (.fz dn)) (h : Sg (E1.set i (.fz dn)) rest P v) (hl : i < E1.length := by first | decide | exact of_decide_eq_true rfl) : Sg E (dSeq (dAug g i fe) rest) P v := fun ρ q => by
  obtain ⟨r, ρ1, e1, q1, c1⟩ := he.2 ρ q
  have e5 : bd fe look ρ = .ok d ρ1 := by rw [bd_eq e1]; exact look_k q1 he.1 c1
  have hl' : i < ρ1.length := by rw [← c1.len]; exact hl
  rw [seq_nx (ρ1 := ρ1.set i (.fz dn)) (by unfold dAug; simp only [q.good hi, e5, hg]; rw [if_pos hl'])]
  exact h _ (c1.set i rfl)
/-- a, b = x, y -/
def parE : List Nat → List Kd → List D → List Ms → List Ms
  | i :: is, .new :: ks, d :: ds, E => parE is ks ds (E.set i (.ow d))
  | i :: is, .vn :: ks, d :: ds, E => parE is ks ds (E.set i (.rd d))
  | i :: is, _ :: ks, d :: ds, E => parE is ks ds (E.set i (.fz d))
  | _, _, _, E => E
def argF : List Kd → List D → List Ms → List Ms
  | .own i :: ks, d :: ds, E => argF ks ds (E.set i (.fz d))
  | _ :: ks, _ :: ds, E => argF ks ds E
  | _, _, E => E
def Kp : Kd → D → Rs → Prop
  | .new, d, r => r = .ow d
  | .vn, d, r => r = .fz d ∨ r = .ow d
  | _, d, r => r = .fz d
def KpA : List Kd → List D → List Rs → Prop
  | [], [], [] => True
  | k :: ks, d :: ds, r :: rs => Kp k d r ∧ KpA ks ds rs
  | _, _, _ => False
theorem par_args : ∀ {ks : List Kd} {ds : List D} {rs : List Rs} {is : List Nat} {E : List Ms} {ρ : List Sl}, is.length = ks.length → KrA ks ds rs → RdkA ks ds E → Ec E ρ → ∃ rs' ρ', argSA (is.map fun _ => false) rs ρ = .ok rs' ρ' ∧ KpA ks ds rs' ∧ Ec (argF ks ds E) ρ' := by
  intro ks
  induction ks with
  | nil =>
    intro ds rs is E ρ hl h q e
    cases is with
    | cons _ _ => simp at hl
    | nil =>
      cases ds with
      | cons _ _ => exact h.elim
      | nil => cases rs with
        | cons _ _ => exact h.elim
        | nil => exact ⟨[], ρ, rfl, trivial, e⟩
  | cons k ks ih =>
    intro ds rs is E ρ hl h q e
    cases is with
    | nil => simp at hl
    | cons i0 is =>
    cases ds with
    | nil => exact h.elim
    | cons d ds =>
    cases rs with
    | nil => exact h.elim
    | cons r rs =>
    have step : ∀ r' ρ1 E1, argS false r ρ = .ok r' ρ1 → Kp k d r' → Ec E1 ρ1 → RdkA ks ds E1 → argF (k :: ks) (d :: ds) E = argF ks ds E1 → ∃ rs' ρ', argSA ((i0 :: is).map fun _ => false) (r :: rs) ρ = .ok rs' ρ' ∧ KpA (k :: ks) (d :: ds) rs' ∧ Ec (argF (k :: ks) (d :: ds) E) ρ' := fun r' ρ1 E1 e1 p1 c1 q1 ez => by
      obtain ⟨rs', ρ2, e2, p2, c2⟩ := ih (is := is) (by simpa using hl) h.2 q1 c1
      exact ⟨r' :: rs', ρ2, by rw [List.map_cons]; unfold argSA; rw [bd_eq e1, bd_eq e2]; rfl, ⟨p1, p2⟩, by rw [ez]; exact c2⟩
    have h1 := h.1
    cases k with
    | val => have h1 : r = .fz d := h1; subst h1; exact step _ _ E rfl rfl e q.2 rfl
    | new => have h1 : r = .ow d := h1; subst h1; exact step _ _ E rfl rfl e q.2 rfl
    | vn => rcases h1 with h1 | h1 <;> subst h1
            · exact step _ _ E rfl (.inl rfl) e q.2 rfl
            · exact step _ _ E rfl (.inr rfl) e q.2 rfl
    | nam i =>
      obtain ⟨ρ1, e1, c1⟩ := frz_k (r := r) h1 q.1 e
      refine step (.fz d) ρ1 E ?_ rfl c1 q.2 rfl
      rcases h1 with h1 | h1 <;> subst h1
      · cases e1; rfl
      · unfold frz at e1; unfold argS
        simp only at e1 ⊢
        rcases e.rd (RdR.m q.1) with z | z | z <;> simp only [z] at e1 ⊢ <;> cases e1 <;> rfl
    | own i =>
      obtain ⟨ρ1, e1, c1⟩ := frz_k (r := r) h1 q.1 e
      refine step (.fz d) ρ1 (E.set i (.fz d)) ?_ rfl c1 (RdkA.frz (k' := .own i) q.1 q.2) rfl
      have h1 : r = .nm i := h1
      subst h1
      unfold frz at e1; unfold argS
      simp only at e1 ⊢
      rcases e.rd q.1 with z | z | z <;> simp only [z] at e1 ⊢ <;> cases e1 <;> rfl
theorem par_set : ∀ {is : List Nat} {ks : List Kd} {ds : List D} {rs : List Rs} {E : List Ms} {ρ : List Sl}, is.length = ks.length → KpA ks ds rs → Ec E ρ → (∀ i ∈ is, i < E.length) → ∃ ρ', setQs is rs ρ = some ρ' ∧ Ec (parE is ks ds E) ρ' := by
  intro is
  induction is with
  | nil =>
    intro ks ds rs E ρ hl h e _
    cases ks with
    | cons _ _ => simp at hl
    | nil => cases ds with
      | cons _ _ => exact h.elim
      | nil => cases rs with
        | cons _ _ => exact h.elim
        | nil => exact ⟨ρ, rfl, e⟩
  | cons i is ih =>
    intro ks ds rs E ρ hl h e hb
    cases ks with
    | nil => simp at hl
    | cons k ks =>
    cases ds with
    | nil => exact h.elim
    | cons d ds =>
    cases rs with
    | nil => exact h.elim
    | cons r rs =>
    have hi : i < ρ.length := by rw [← e.len]; exact hb i (by simp)
    have step : ∀ m s, Mo m s → setQ i r ρ = some (ρ.set i s) → parE (i :: is) (k :: ks) (d :: ds) E = parE is ks ds (E.set i m) → ∃ ρ', setQs (i :: is) (r :: rs) ρ = some ρ' ∧ Ec (parE (i :: is) (k :: ks) (d :: ds) E) ρ' := fun m s hm es ep => by
      obtain ⟨ρ', e1, c1⟩ := ih (E := E.set i m) (ρ := ρ.set i s) (ks := ks) (ds := ds) (by simpa using hl) h.2 (e.set i hm) fun j hj => by rw [List.length_set]; exact hb j (by simp [hj])
      exact ⟨ρ', by unfold setQs; simp only [es]; exact e1, by rw [ep]; exact c1⟩
    have h1 := h.1
    have sf : setQ i (.fz d) ρ = some (ρ.set i (.fz d)) := if_pos hi
    have so : setQ i (.ow d) ρ = some (ρ.set i (.ow d)) := if_pos hi
    cases k with
    | val => have h1 : r = .fz d := h1; subst h1; exact step (.fz d) _ rfl sf rfl
    | new => have h1 : r = .ow d := h1; subst h1; exact step (.ow d) _ rfl so rfl
    | vn => rcases h1 with h1 | h1 <;> subst h1
            · exact step (.rd d) _ (.inl rfl) sf rfl
            · exact step (.rd d) _ (.inr (.inl rfl)) so rfl
    | nam _ => have h1 : r = .fz d := h1; subst h1; exact step (.fz d) _ rfl sf rfl
    | own _ => have h1 : r = .fz d := h1; subst h1; exact step (.fz d) _ rfl sf rfl
theorem argF_len : ∀ {ks : List Kd} {ds : List D} {E : List Ms}, (argF ks ds E).length = E.length
  | [], _, _ => by unfold argF; rfl
  | k :: _, [], E => by cases k <;> rfl
  | k :: ks, d :: ds, E => by cases k <;> (unfold argF; rw [argF_len]) <;> simp
theorem sg_par {is : List Nat} (ha : Ea E f ks ds E1) (hr : RdkA ks ds E1) (h : Sg (parE is ks ds (argF ks ds E1)) rest P v) (hl : is.length = ks.length := by rfl) (hb : ∀ i ∈ is, i < E1.length := by first | decide | exact of_decide_eq_true rfl) : Sg E (dSeq (dPar is f) rest) P v := fun ρ q => by
  obtain ⟨rs, ρ1, e1, q1, c1⟩ := ha ρ q
  obtain ⟨rs', ρ2, e2, p2, c2⟩ := par_args (is := is) hl q1 hr c1
  obtain ⟨ρ3, e3, c3⟩ := par_set hl p2 c2 fun i hi => by rw [argF_len]; exact hb i hi
  rw [seq_nx (ρ1 := ρ3) (by unfold dPar; rw [bd_eq e1, e2]; simp only [e3])]
  exact h _ c3
/-! dicts told in full -/
def Eps (E : List Ms) (ps : List (M Rs × M Rs)) (kks : List Key) (ks : List Kd) (ds : List D) (E' : List Ms) : Prop := ∀ ρ, Ec E ρ → ∃ rs ρ', dPairs ps ρ = .ok (kks.zip rs) ρ' ∧ rs.length = kks.length ∧ KrA ks ds rs ∧ Ec E' ρ'
theorem eps_nil : Eps E [] [] [] [] E := fun ρ e => ⟨[], ρ, rfl, rfl, trivial, e⟩
theorem eps_cons {ps : List (M Rs × M Rs)} {kks : List Key} {kk : Key} (hk : Ev E fi kb dc E1) (hkey : keyOf dc = some kk) (he : Ev E1 fe k d E2) (h : Eps E2 ps kks ks ds E3) : Eps E ((fi, fe) :: ps) (kk :: kks) (k :: ks) (d :: ds) E3 := fun ρ q => by
  obtain ⟨rk, ρ1, e1, q1, c1⟩ := hk.2 ρ q
  have e4 : dKey fi ρ = .ok kk ρ1 := by unfold dKey; rw [bd_eq e1, bd_eq (look_k q1 hk.1 c1)]; exact opt_eq hkey
  obtain ⟨r, ρ2, e2, q2, c2⟩ := he.2 ρ1 c1
  obtain ⟨rs, ρ3, e3, e5, q3, c3⟩ := h ρ2 c2
  exact ⟨r :: rs, ρ3, by unfold dPairs; rw [bd_eq e4, bd_eq e2, bd_eq e3]; rfl, by simp [e5], ⟨q2, q3⟩, c3⟩
theorem zip_1 : ∀ {kks : List Key} {rs : List Rs}, rs.length = kks.length → (kks.zip rs).map (·.1) = kks ∧ (kks.zip rs).map (·.2) = rs
  | [], [], _ => ⟨rfl, rfl⟩
  | [], _ :: _, h => by simp at h
  | _ :: _, [], h => by simp at h
  | _ :: _, _ :: _, h => by
    obtain ⟨h1, h2⟩ := zip_1 (by simpa using h)
    exact ⟨by rw [List.zip_cons_cons, List.map_cons, h1], by rw [List.zip_cons_cons, List.map_cons, h2]⟩
theorem ev_disp {ps : List (M Rs × M Rs)} {kks : List Key} {kvs : List (D × D)} (h : Eps E ps kks ks ds E1) (hr : RdkA ks ds E1) (hd : (kks.zip ds).foldl (fun acc kv => dput kv.1 kv.2 acc) [] = kvs) (hl : kks.length ≤ 15 := by decide) : Ev E (dDisp ps) .new (.dict kvs) (frzEA ks ds E1) := ⟨trivial, fun ρ q => by
  obtain ⟨rs, ρ1, e1, l1, q1, c1⟩ := h ρ q
  obtain ⟨ρ2, e2, c2⟩ := frzA_k q1 hr c1
  obtain ⟨z1, z2⟩ := zip_1 l1
  refine ⟨_, ρ2, ?_, rfl, c2⟩
  unfold dDisp
  rw [bd_eq e1]
  simp only [z1, z2]
  rw [bd_eq e2, if_pos (by rw [List.length_zip, l1]; simpa using hl), hd]; rfl⟩
/-! slices, ranges as lists, times -/
theorem ev_lRg2 {n n2 : Int} (ha : Ev E a ka (.int n) E1) (hb : Ev E1 b kb (.int n2) E2) (h0 : 0 ≤ n) (h1 : n ≤ 16777216) (h2 : 0 ≤ n2) (h3 : n2 ≤ 16777216) (hr : Rdk ka (.int n) E2 := by repeat (first | exact True.intro | exact rfl | apply And.intro)) : Ev E (dLRg (dRgA2 a b)) .new (.list (rgD n n2)) E2 := ⟨trivial, fun ρ q => by
  obtain ⟨ra, ρ1, e1, q1, c1⟩ := ha.2 ρ q
  obtain ⟨rb, ρ2, e2, q2, c2⟩ := hb.2 ρ1 c1
  refine ⟨_, ρ2, ?_, rfl, c2⟩
  unfold dLRg
  rw [bd_eq (show dRgA2 a b ρ = .ok (n, n2) ρ2 by unfold dRgA2; rw [bd_eq e1, bd_eq e2, bd_eq (look_k q1 hr c2), bd_eq (look_k q2 hb.1 c2)]; rfl)]
  exact opt_eq (lRg_ok h0 h3 h1 h2)⟩
end
end TL
/-! TL6: encoders, typed operations -/
namespace TL
open PySem L2 DL
abbrev OkS := { x : Str // PyData.strOk x = true }
abbrev eI : Int → D := PyData.int
abbrev eN (k : Nat) : D := .int (k : Int)
abbrev eB : Bool → D := PyData.bool
abbrev eS (x : OkS) : D := .str x.1
abbrev eL {α : Type} (e : α → D) (xs : List α) : D := .list (xs.map e)
abbrev eT {α : Type} (e : α → D) (xs : List α) : D := .tuple (xs.map e)
abbrev e1 {α : Type} (a : α → D) (p : α) : D := .tuple [a p]
abbrev e2 {α β : Type} (a : α → D) (b : β → D) (p : α × β) : D := .tuple [a p.1, b p.2]
abbrev e3 {α β γ : Type} (a : α → D) (b : β → D) (c : γ → D) (p : α × β × γ) : D := .tuple [a p.1, b p.2.1, c p.2.2]
abbrev e4 {α β γ δ : Type} (a : α → D) (b : β → D) (c : γ → D) (d : δ → D) (p : α × β × γ × δ) : D := .tuple [a p.1, b p.2.1, c p.2.2.1, d p.2.2.2]
abbrev e5 {α β γ δ ε : Type} (a : α → D) (b : β → D) (c : γ → D) (d : δ → D) (e : ε → D) (p : α × β × γ × δ × ε) : D := .tuple [a p.1, b p.2.1, c p.2.2.1, d p.2.2.2.1, e p.2.2.2.2]
abbrev e6 {α β γ δ ε ζ : Type} (a : α → D) (b : β → D) (c : γ → D) (d : δ → D) (e : ε → D) (f : ζ → D) (p : α × β × γ × δ × ε × ζ) : D := .tuple [a p.1, b p.2.1, c p.2.2.1, d p.2.2.2.1, e p.2.2.2.2.1, f p.2.2.2.2.2]
def eO {α : Type} (e : α → D) : Option α → D
  | none => .none
  | some a => e a
abbrev eDc {α : Type} (e : α → D) (kvs : List (OkS × α)) : D := .dict (kvs.map fun p => (.str p.1.1, e p.2))
def okS (x : Str) (h : PyData.strOk x = true := by decide +kernel) : OkS := ⟨x, h⟩
/-- equality of data is equality of values; data of a depth -/
structure Gd {α : Type} [DecidableEq α] (n : Nat) (enc : α → D) : Prop where
  e : EqE enc
  f : ∀ a, fine n (enc a)
section
variable {α β γ δ ε : Type} [DecidableEq α] [DecidableEq β] [DecidableEq γ] [DecidableEq δ] [DecidableEq ε] {n : Nat} {ea : α → D} {eb : β → D} {ec : γ → D} {ed : δ → D} {ee : ε → D}
theorem gd_str : Gd n eS := ⟨fun a b => by
  show PyData.eqv (.str a.1) (.str b.1) = _
  rw [eqv_s]
  exact decide_eq_decide.mpr Subtype.ext_iff.symm, fun a => fine_s a.2⟩
theorem gd_list (h : Gd n ea) : Gd (n + 1) (eL ea) := ⟨eqE_lst h.e, fun _ => fine_lm fun x _ => h.f x⟩
theorem Gd.le {m : Nat} (h : Gd n ea) (hm : n ≤ m) : Gd m ea := ⟨h.e, fun a => fine_le (h.f a) hm⟩
theorem isNone_eO (hn : ∀ a, isNone (ea a) = false) (o : Option α) : isNone (eO ea o) = o.isNone := by cases o; rfl; exact hn _
theorem eO_get (df : α) {o : Option α} (h : o.isNone = false) : eO ea o = ea (o.getD df) := by cases o; cases h; rfl
theorem gIs_O (hn : ∀ a, isNone (ea a) = false) {o : Option α} : gIs (eO ea o) .none = some o.isNone := by rw [gIs_none, isNone_eO hn]
/-! comparisons -/
theorem dec_any {p : Prop} (i j : Decidable p) : @decide p i = @decide p j := by rw [Subsingleton.elim i j]
theorem gEq_g (h : Gd n ea) (hn : n ≤ 62 := by decide) {a b : α} {i : Decidable (a = b)} : gEq (ea a) (ea b) = some (@decide (a = b) i) := (gEq_e h.e (by omega) (h.f a) (h.f b)).trans (congrArg some (dec_any _ _))
theorem gNe_g (h : Gd n ea) (hn : n ≤ 62 := by decide) {a b : α} {i : Decidable (a = b)} : gNe (ea a) (ea b) = some (!@decide (a = b) i) := gNe_of (gEq_g h hn)
end
section
variable {i j : Int} {k l : Nat}
theorem gEq_nn : gEq (.int (k : Nat)) (.int (l : Nat)) = some (decide (k = l)) := by rw [gEq_ii]; exact congrArg some (decide_eq_decide.mpr (by omega))
end
section
variable {E E1 E2 E3 : List Ms} {a b : M Rs} {k ka kb : Kd} {d d' da db : D} {f : M (List Rs)} {ks : List Kd} {ds : List D}
theorem ev_op2v {g : G2} (ha : Ev E a ka da E1) (hb : Ev E1 b kb db E2) (hg : g da db = some (.fz d)) (hr : Rdk ka da E2 := by repeat (first | exact True.intro | exact rfl | apply And.intro)) : Ev E (dOp2 g a b) .val d E2 := ev_op2 (r := .fz d) ha hb hg rfl hr
theorem ev_op2o {g : G2} (ha : Ev E a ka da E1) (hb : Ev E1 b kb db E2) (hg : g da db = some (.ow d)) (hr : Rdk ka da E2 := by repeat (first | exact True.intro | exact rfl | apply And.intro)) : Ev E (dOp2 g a b) .new d E2 := ev_op2 (r := .ow d) ha hb hg rfl hr
theorem ev_op1v {g : D → Option Rs} (ha : Ev E a ka da E1) (hg : g da = some (.fz d)) : Ev E (dOp1 g a) .val d E1 := ev_op1 (r := .fz d) ha hg rfl
theorem ev_B1v {g : List D → Option Rs} (ha : Ev E a ka da E1) (hg : g [da] = some (.fz d)) : Ev E (dB g (dCons a dNil)) .val d E1 := ev_B1 (r := .fz d) ha hg rfl
end
/-! operations -/
section
variable {E E1 E2 E3 : List Ms} {m a b c e fi fe : M Rs} {k ka kb kc : Kd} {x y : Int} {p q : Nat} {α β : Type} {enc : α → D} {xs ys : List α}
theorem ev_addI (ha : Ev E a ka (.int x) E1) (hb : Ev E1 b kb (.int y) E2) (hr : Rdk ka (.int x) E2 := by repeat (first | exact True.intro | exact rfl | apply And.intro)) : Ev E (dOp2 gAdd a b) .val (.int (x + y)) E2 := ev_op2v ha hb gAdd_ii hr
theorem ev_addN (ha : Ev E a ka (.int (p : Nat)) E1) (hb : Ev E1 b kb (.int (q : Nat)) E2) (hr : Rdk ka (.int (p : Nat)) E2 := by repeat (first | exact True.intro | exact rfl | apply And.intro)) : Ev E (dOp2 gAdd a b) .val (.int ((p + q : Nat) : Int)) E2 := (ev_op2v ha hb gAdd_ii hr).eq (by rw [Int.natCast_add])
theorem ev_subI (ha : Ev E a ka (.int x) E1) (hb : Ev E1 b kb (.int y) E2) (hr : Rdk ka (.int x) E2 := by repeat (first | exact True.intro | exact rfl | apply And.intro)) : Ev E (dOp2 gSub a b) .val (.int (x - y)) E2 := ev_op2v ha hb gSub_ii hr
theorem ev_negI (ha : Ev E a ka (.int x) E1) : Ev E (dOp1 gNeg a) .val (.int (-x)) E1 := ev_op1v ha gNeg_i
theorem ev_addL (ha : Ev E a ka (.list (xs.map enc)) E1) (hb : Ev E1 b kb (.list (ys.map enc)) E2) (h : xs.length + ys.length ≤ 16777216) (hr : Rdk ka (.list (xs.map enc)) E2 := by repeat (first | exact True.intro | exact rfl | apply And.intro)) : Ev E (dOp2 gAdd a b) .new (.list ((xs ++ ys).map enc)) E2 := (ev_op2o ha hb (gAdd_ll (by rw [List.length_map, List.length_map, sizeLine_eq]; exact h)) hr).eq (by rw [List.map_append])
theorem ev_lenL (ha : Ev E a k (.list (xs.map enc)) E1) : Ev E (dB gLen (dCons a dNil)) .val (.int (xs.length : Nat)) E1 := (ev_B1v ha gLen_l).eq (by rw [List.length_map])
theorem ev_lenT (ha : Ev E a k (.tuple (xs.map enc)) E1) : Ev E (dB gLen (dCons a dNil)) .val (.int (xs.length : Nat)) E1 := (ev_B1v ha gLen_t).eq (by rw [List.length_map])
theorem ev_tupL (ha : Ev E a k (.list (xs.map enc)) E1) : Ev E (dB gTuple (dCons a dNil)) .val (.tuple (xs.map enc)) E1 := ev_B1v ha gTuple_l
theorem ev_minL {ns : List Int} (ha : Ev E a k (.list (ns.map .int)) E1) (h : ns ≠ []) : Ev E (dB gMin (dCons a dNil)) .val (.int (minL ns)) E1 := ev_B1v ha (gMin_l h)
/-! items -/
theorem getD_lt {k : Nat} (h : k < xs.length) (df : α) : xs.getD k df = xs[k] := by rw [List.getD_eq_getElem?_getD, List.getElem?_eq_getElem h]; rfl
theorem ev_ixLN (df : α) (ha : Ev E a ka (.list (xs.map enc)) E1) (hb : Ev E1 b kb (.int (p : Nat)) E2) (h : p < xs.length) (hr : Rdk ka (.list (xs.map enc)) E2 := by repeat (first | exact True.intro | exact rfl | apply And.intro)) : Ev E (dOp2 gIx a b) .val (enc (xs.getD p df)) E2 := (ev_op2v ha hb (gIx_lm h) hr).eq (by rw [getD_lt h])
theorem ev_ixTN (df : α) (ha : Ev E a ka (.tuple (xs.map enc)) E1) (hb : Ev E1 b kb (.int (p : Nat)) E2) (h : p < xs.length) (hr : Rdk ka (.tuple (xs.map enc)) E2 := by repeat (first | exact True.intro | exact rfl | apply And.intro)) : Ev E (dOp2 gIx a b) .val (enc (xs.getD p df)) E2 := (ev_op2v ha hb (gIx_tm h) hr).eq (by rw [getD_lt h])
theorem ev_ixLI (df : α) (ha : Ev E a ka (.list (xs.map enc)) E1) (hb : Ev E1 b kb (.int x) E2) (h0 : 0 ≤ x) (h : x.toNat < xs.length) (hr : Rdk ka (.list (xs.map enc)) E2 := by repeat (first | exact True.intro | exact rfl | apply And.intro)) : Ev E (dOp2 gIx a b) .val (enc (xs.getD x.toNat df)) E2 := ev_ixLN df ha (hb.eq (by rw [Int.toNat_of_nonneg h0])) h hr
theorem last_split (df : α) (h : xs ≠ []) : xs = xs.dropLast ++ [xs.getLastD df] := by
  rw [List.getLastD_eq_getLast?, List.getLast?_eq_some_getLast h]
  exact (List.dropLast_concat_getLast h).symm
theorem ev_ixLZ (df : α) (ha : Ev E a ka (.list (xs.map enc)) E1) (hb : Ev E1 b kb (.int (-1)) E2) (h : xs ≠ []) (hr : Rdk ka (.list (xs.map enc)) E2 := by repeat (first | exact True.intro | exact rfl | apply And.intro)) : Ev E (dOp2 gIx a b) .val (enc (xs.getLastD df)) E2 := ev_op2v ha hb (by
  conv => lhs; rw [last_split df h, List.map_append]
  exact gIx_lz) hr
/-- an item of a tuple of a told shape -/
theorem ev_ixC {d d' : D} {i : Int} (ha : Ev E a ka d E1) (hg : gIx d (.int i) = some (.fz d')) (hr : Rdk ka d E1 := by repeat (first | exact True.intro | exact rfl | apply And.intro)) : Ev E (dOp2 gIx a (dC (.int i))) .val d' E1 := ev_op2v ha ev_C hg hr
/-! slices -/
end
/-! ranges -/
theorem rgD_NN (n m : Nat) : rgD (n : Int) (m : Int) = (List.range' n (m - n)).map eN := by
  unfold rgD
  rw [show ((m : Int) - n).toNat = m - n by omega, List.range'_eq_map_range, List.map_map]
  rfl
section
variable {E E1 E2 : List Ms} {a b e eb : M Rs} {k ka kb : Kd} {n m : Nat}
theorem ev_lRgNN (ha : Ev E a ka (.int (n : Nat)) E1) (hb : Ev E1 b kb (.int (m : Nat)) E2) (h1 : n ≤ 16777216) (h2 : m ≤ 16777216) (hr : Rdk ka (.int (n : Nat)) E2 := by repeat (first | exact True.intro | exact rfl | apply And.intro)) : Ev E (dLRg (dRgA2 a b)) .new (.list ((List.range' n (m - n)).map eN)) E2 := (ev_lRg2 ha hb (by omega) (by omega) (by omega) (by omega) hr).eq (by rw [rgD_NN])
theorem ew_rgN (ha : Ev E e k (.int (n : Nat)) E1) (h : n ≤ 1000000000) : Ew E (dRng1 (dCons e dNil)) ((List.range n).map eN) .no E1 := by
  have := ew_rng1 ha (by omega) (by omega)
  rwa [Int.toNat_natCast] at this
theorem ew_rgNN (ha : Ev E e ka (.int (n : Nat)) E1) (hb : Ev E1 eb kb (.int (m : Nat)) E2) (h1 : n ≤ 1000000000) (h2 : m ≤ 1000000000) (hr : Rdk ka (.int (n : Nat)) E2 := by repeat (first | exact True.intro | exact rfl | apply And.intro)) : Ew E (dRng2 (dCons e (dCons eb dNil))) ((List.range' n (m - n)).map eN) .no E2 := by
  have := ew_rng2 ha hb (by omega) (by omega) (by omega) (by omega) hr
  rw [show ((m : Int) - n).toNat = m - n by omega] at this
  rw [List.range'_eq_map_range, List.map_map]
  exact this
/-- a range of integers that may be less than none -/
theorem ew_rgI {x : Int} (ha : Ev E e k (.int x) E1) (h1 : -1000000000 ≤ x) (h2 : x ≤ 1000000000) : Ew E (dRng1 (dCons e dNil)) ((List.range x.toNat).map eN) .no E1 := ew_rng1 ha (by omega) (by omega)
end
end TL
/-! TL7: dicts, stores at items, draws, ends of the law -/
namespace TL
open PySem L2 DL
section
variable {α β : Type} {enc : α → D} {ea : α → D} {eb : β → D}
/-! dicts with names -/
def alook (kvs : List (OkS × α)) (x : OkS) : Option α := (kvs.find? fun p => decide (p.1 = x)).map (·.2)
def aget (kvs : List (OkS × α)) (x : OkS) (df : α) : α := (alook kvs x).getD df
def akeys (kvs : List (OkS × α)) : List OkS := kvs.map (·.1)
theorem keyEq_s (x y : OkS) : keyEq (.inr x.1) (.str y.1) = decide (y = x) := by
  rw [show (PyData.str y.1) = kD (.inr y.1) from rfl, keyEq_kD]
  exact decide_eq_decide.mpr ⟨fun h => Subtype.ext (by simpa using h), fun h => by rw [h]⟩
theorem dget_a (x : OkS) : ∀ kvs : List (OkS × α), dget (.inr x.1) (kvs.map fun p => (PyData.str p.1.1, enc p.2)) = (alook kvs x).map enc
  | [] => rfl
  | p :: r => by
    rw [List.map_cons]
    unfold dget
    simp only
    rw [keyEq_s]
    unfold alook
    rw [List.find?_cons]
    cases h : decide (p.1 = x) with
    | true => rfl
    | false => simp only [Bool.false_eq_true, if_false]; exact dget_a x r
theorem alook_some {kvs : List (OkS × α)} {x : OkS} (h : x ∈ akeys kvs) : ∃ v, alook kvs x = some v ∧ (x, v) ∈ kvs := by
  unfold alook
  obtain ⟨p, hp, e⟩ := List.mem_map.mp h
  cases hf : kvs.find? fun p => decide (p.1 = x) with
  | none => have := List.find?_eq_none.mp hf p hp; simp [e] at this
  | some q =>
    have h1 := List.find?_some hf
    have h2 := List.mem_of_find?_eq_some hf
    simp at h1
    exact ⟨q.2, rfl, by rw [← h1]; exact h2⟩
theorem gIx_a (df : α) {kvs : List (OkS × α)} {x : OkS} (h : x ∈ akeys kvs) : gIx (eDc enc kvs) (eS x) = some (.fz (enc (aget kvs x df))) := by
  obtain ⟨v, e, _⟩ := alook_some h
  show (dget (.inr x.1) (kvs.map fun p => (PyData.str p.1.1, enc p.2))).map Rs.fz = _
  rw [dget_a, e]
  unfold aget; rw [e]; rfl
/-! lists at places -/
end
section
variable {E E1 E2 E3 : List Ms} {m a b c e fi fe : M Rs} {k ka kb kc : Kd} {x y : Int} {p q : Nat} {α β : Type} {enc : α → D} {xs ys : List α} {d : D} {i j : Nat}
theorem ev_ixA (df : α) {kvs : List (OkS × α)} {x : OkS} (ha : Ev E a ka (.dict (kvs.map fun p => (.str p.1.1, enc p.2))) E1) (hb : Ev E1 b kb (.str x.1) E2) (h : x ∈ akeys kvs) (hr : Rdk ka (.dict (kvs.map fun p => (.str p.1.1, enc p.2))) E2 := by repeat (first | exact True.intro | exact rfl | apply And.intro)) : Ev E (dOp2 gIx a b) .val (enc (aget kvs x df)) E2 := ev_op2v ha hb (gIx_a df h) hr
/-! append, extend, pop -/
theorem ev_app {x : α} (hi : E[i]? = some (.ow (.list (xs.map enc)))) (ha : Ev E a k (enc x) E1) (hi1 : (frzE k (enc x) E1)[i]? = some (.ow (.list (xs.map enc)))) (hl : xs.length < 16777216) :
    Ev E (dMut i isLst true gAppend (dCons a dNil)) .val .none ((frzE k (enc x) E1).set i (.ow (.list ((xs ++ [x]).map enc)))) :=
  ev_mut (d' := .list ((xs ++ [x]).map enc)) (res := .none) (d1 := .list (xs.map enc)) hi rfl (ea_cons ha ea_nil) ⟨ha.1, trivial⟩ hi1 (by rw [gAppend_l (by rw [List.length_map, sizeLine_eq]; exact hl), List.map_append]; rfl)
/-! draws -/
theorem ev_sp {f : M Rs} {ins outs : List Ms} {r : Rs} {k : Kd} (h : ∀ ρ, Ec ins ρ → ∃ ρ', f ρ = .ok r ρ' ∧ Ec outs ρ') (hk : Rk r k d) : Ev ins f k d outs := ⟨hk.kr.2 _, fun ρ e => by
  obtain ⟨ρ', e1, c1⟩ := h ρ e
  exact ⟨r, ρ', e1, hk.kr.1, c1⟩⟩
theorem ec_2 {m n : Ms} {ρ : List Sl} (h : Ec [m, n] ρ) : ∃ s t, ρ = [s, t] ∧ Mo m s ∧ Mo n t := by
  match ρ, h with
  | [s, t], h => exact ⟨s, t, rfl, h.1, h.2.1⟩
  | [_], h => exact h.2.elim
  | _ :: _ :: _ :: _, h => exact h.2.2.elim
theorem tv_next (ds : List Int) (i : Nat) (m : Int) (hm : 0 < m) : Ev [.ow (Wd ds i), .fz (.int m)] nextF .val (.int (nx ds i m)) [.ow (Wd ds (i + 1 : Nat)), .fz (.int m)] := ev_sp (r := .fz (.int (nx ds i m))) (fun ρ e => by
  obtain ⟨s, t, rfl, h1, h2⟩ := ec_2 e
  have h1 : s = .ow (Wd ds i) := h1
  have h2 : t = .fz (.int m) := h2
  subst h1; subst h2
  exact ⟨_, next_ok' hm, rfl, rfl, trivial⟩) rfl
/-- what a pick gives -/
def pkT (ds : List Int) (i : Nat) (xs : List α) (df : α) : α := xs.getD (nx ds i xs.length).toNat df
theorem pkT_mem {ds : List Int} {i : Nat} {df : α} (h : xs ≠ []) : pkT ds i xs df ∈ xs := by
  have hl : 0 < xs.length := List.length_pos_iff.mpr h
  have h1 := nx_lt (ds := ds) (i := i) (m := (xs.length : Nat)) (by omega)
  have h2 := nx_nonneg (ds := ds) (i := i) (m := (xs.length : Nat)) (by omega)
  unfold pkT
  rw [getD_lt (by omega)]; exact List.getElem_mem _
theorem tv_pickL (df : α) (ds : List Int) (i : Nat) (xs : List α) (enc : α → D) (h : xs ≠ []) : Ev [.ow (Wd ds i), .rd (.list (xs.map enc))] pickF .val (enc (pkT ds i xs df)) [.ow (Wd ds (i + 1 : Nat)), .rd (.list (xs.map enc))] := by
  have hl : 0 < xs.length := List.length_pos_iff.mpr h
  have h1 := nx_lt (ds := ds) (i := i) (m := (xs.length : Nat)) (by omega)
  have h2 := nx_nonneg (ds := ds) (i := i) (m := (xs.length : Nat)) (by omega)
  refine ev_run (n := 2) (outs := fun _ => [.ow (Wd ds (i + 1 : Nat)), .rd (.list (xs.map enc))]) (ms := [true, true]) (sg_last (sg_ret (v := pkT ds i xs df) (ev_ixLI df (ev_rd (i := 1) rfl) (ev_call (tv_next ds i (xs.length : Nat) (by omega)) (ea_cons (ev_ow (i := 0) rfl) (ea_cons (ev_lenL (ev_rd (i := 1) rfl)) ea_nil)) rdT) h2 (by omega)) leT roT))
end
end TL
/-! TL8: more typed operations, the tactic of side conditions -/
namespace TL
open PySem L2 DL
def dS0 : OkS := okS ""
theorem mapS_len {α β σ : Type} {f : σ → α → β × σ} : ∀ (xs : List α) (s : σ), (mapS f s xs).1.length = xs.length
  | [], s => rfl
  | x :: xs, s => by
    show (_ :: (mapS f (f s x).2 xs).1).length = _
    rw [List.length_cons, List.length_cons, mapS_len xs]
theorem scT {p : Prop} (h : p := by first
  | omega
  | assumption
  | (simp only [List.mem_range, List.mem_range'_1, List.length_map, List.length_append, List.length_cons, List.length_nil, List.length_range, List.length_range', List.length_set, List.length_reverse, List.length_replicate, mapS_len]; omega)
  | (simp only [List.mem_range, List.mem_range'_1, List.length_map, List.length_append, List.length_cons, List.length_nil, List.length_range, List.length_range', List.length_set, List.length_reverse, List.length_replicate, mapS_len] at *; omega)
  | (simp; done)
  | (simp_all; done)
  | (simp_all; omega)
  | fail "SC") : p := h
theorem map_id_e {α : Type} (enc : α → D) (xs : List α) : PyData.list ((xs.map fun x => x).map enc) = PyData.list (xs.map enc) := by rw [List.map_id']
end TL
/-! TL9: the law's own def: ways that are known, states that are there, draws, comparers -/
namespace TL
open PySem L2 DL
section
variable {E E1 E2 E3 : List Ms} {m a b c e : M Rs} {k ka kb kc : Kd} {d da db dc : D} {i j : Nat} {f : M (List Rs)} {ks : List Kd} {ds : List D} {τ : Type} {P : τ → SR → Prop} {rest s s1 s2 body : DS} {v x y : τ} {li : Lki} {l : Option Nat} {ρ ρ1 ρ2 : List Sl}
theorem sg_gen0 {α : Type} (Ef : α → List Ms) {x : α} (h : ∀ y, y = x → Sg (Ef y) s P v) : Sg (Ef x) s P v := h x rfl
theorem sg_for0 {α σ : Type} {w : M Wk} {g : DG} (enc : α → D) {xs : List α} (Eσ : σ → List Ms) {s0 : σ} {step : σ → α → σ} (I : Nat → σ → Prop)
    (hw : Ew E w (xs.map enc) li E1) (h0 : Le E1 (Eσ s0)) (i0 : I 0 s0)
    (hb : ∀ k x s, xs[k]? = some x → I k s → ∃ E2, Tg g (enc x) (Eσ s) E2 ∧ Sg E2 body (Pn Eσ) (step s x)) (hi : ∀ k x s, xs[k]? = some x → I k s → I (k + 1) (step s x))
    (hr : ∀ s, s = xs.foldl step s0 → I xs.length s → Sg (unlE li (Eσ s)) rest P v) : Sg E (dSeq (dFor w g body) rest) P v := sg_for (o := fun _ => v) enc Eσ I hw h0 i0 hb hi hr
/-- a state that is there -/
def Px {σ : Type} (Eσ : σ → List Ms) (I : σ → Prop) : Unit → SR → Prop := fun _ o => ∃ s, I s ∧ match o with
  | .nx ρ => Ec (Eσ s) ρ
  | .ct ρ => Ec (Eσ s) ρ
  | _ => False
theorem sg_passX {σ : Type} {Eσ : σ → List Ms} {I : σ → Prop} (w : σ) (hI : I w) (h : Le E (Eσ w)) : Sg E dPass (Px Eσ I) () := fun ρ e => ⟨w, hI, h.ec e⟩
theorem for_x {α σ : Type} {g : DG} {enc : α → D} {Eσ : σ → List Ms} {I : Nat → σ → Prop} {xs : List α}
    (hb : ∀ k x s, xs[k]? = some x → I k s → ∃ E2, Tg g (enc x) (Eσ s) E2 ∧ Sg E2 body (Px Eσ (I (k + 1))) ()) :
    ∀ (ys : List α) (k : Nat) (s : σ) (ρ : List Sl), xs.drop k = ys → I k s → Ec (Eσ s) ρ → ∃ ρ' s', forGo g body (ys.map enc) ρ = .nx ρ' ∧ Ec (Eσ s') ρ' ∧ I (k + ys.length) s'
  | [], k, s, ρ, _, hI, e => ⟨ρ, s, rfl, e, hI⟩
  | y :: ys, k, s, ρ, hd, hI, e => by
    have hx : xs[k]? = some y := by
      have := congrArg (fun l => l[0]?) hd
      simpa using this
    have hd' : xs.drop (k + 1) = ys := by
      have := congrArg (List.drop 1) hd
      simpa using this
    obtain ⟨E2, h1, h2⟩ := hb k y s hx hI
    obtain ⟨ρ1, e1, c1⟩ := h1 ρ e
    obtain ⟨s', i', q⟩ := h2 ρ1 c1
    have fin : ∀ ρ2, Ec (Eσ s') ρ2 → ∃ ρ' s', forGo g body (ys.map enc) ρ2 = .nx ρ' ∧ Ec (Eσ s') ρ' ∧ I (k + (y :: ys).length) s' := fun ρ2 c2 => by
      obtain ⟨ρ3, s3, e3, c3, i3⟩ := for_x hb ys (k + 1) s' ρ2 hd' i' c2
      exact ⟨ρ3, s3, e3, c3, by rw [List.length_cons, show k + (ys.length + 1) = k + 1 + ys.length by omega]; exact i3⟩
    rw [List.map_cons]
    unfold forGo
    simp only [e1]
    cases eb : body ρ1 with
    | nx ρ2 => rw [eb] at q; exact fin ρ2 q
    | ct ρ2 => rw [eb] at q; exact fin ρ2 q
    | _ => rw [eb] at q; exact q.elim
theorem sg_forX {α σ : Type} {w : M Wk} {g : DG} (enc : α → D) {xs : List α} (Eσ : σ → List Ms) (s0 : σ) (I : Nat → σ → Prop)
    (hw : Ew E w (xs.map enc) li E1) (h0 : Le E1 (Eσ s0)) (i0 : I 0 s0)
    (hb : ∀ k x s, xs[k]? = some x → I k s → ∃ E2, Tg g (enc x) (Eσ s) E2 ∧ Sg E2 body (Px Eσ (I (k + 1))) ())
    (hr : ∀ s, I xs.length s → Sg (unlE li (Eσ s)) rest P v) : Sg E (dSeq (dFor w g body) rest) P v := fun ρ e => by
  obtain ⟨l, ρ1, e1, hl, c1⟩ := hw ρ e
  obtain ⟨ρ2, s2, e2, c2, i2⟩ := for_x hb xs 0 s0 ρ1 rfl i0 (h0.ec c1)
  rw [seq_nx (ρ1 := unl l ρ2) (by unfold dFor; rw [e1]; simp only [e2]; rfl)]
  exact hr s2 (by simpa using i2) _ (unl_k hl c2)
/-! draws -/
theorem ev_draws {script : List Int} (hs : script.length ≤ 63) {many : Nat} (hm : many ≤ 100000) (h : E[i]? = some (.fz (eL eI script))) :
    ∃ ds : List Int, Ev E (dCall [true, true] drawsF (dCons (dVar i) (dCons (dC (.int many)) dNil))) .new (.list (ds.map .int)) E := by
  obtain ⟨ds, hds⟩ := draws_ok script hs many hm
  refine ⟨ds, ?_⟩
  have sp : Ev [.fz (eL eI script), .fz (.int many)] drawsF .new (.list (ds.map .int)) [.fz (eL eI script), .fz (.int many)] := ev_sp (r := .ow (.list (ds.map .int))) (fun ρ e => by
    obtain ⟨s, t, rfl, h1, h2⟩ := ec_2 e
    have h1 : s = .fz (eL eI script) := h1
    have h2 : t = .fz (.int many) := h2
    subst h1; subst h2
    exact ⟨_, hds, e⟩) rfl
  exact ev_call sp (ea_cons (ev_fz h) (ea_cons ev_C ea_nil)) ⟨rfl, rfl, trivial⟩
theorem sg_w {script : List Int} (hs : script.length ≤ 63) {many : Int} (hm : 0 ≤ many ∧ many ≤ 100000) (h : E[i]? = some (.fz (eL eI script))) (hj : j < E.length) (hr : ∀ ds : List Int, Sg (E.set j (.ow (Wd ds (0 : Nat)))) rest P v) :
    Sg E (dSeq (dSet j (dDisp [(dC (.str "draws"), dCall [true, true] drawsF (dCons (dVar i) (dCons (dC (.int many)) dNil))), (dC (.str "at"), dC (.int 0))])) rest) P v := by
  obtain ⟨ds, hd⟩ := ev_draws (E := E) (i := i) hs (many := many.toNat) (by omega) h
  rw [show ((many.toNat : Nat) : Int) = many by omega] at hd
  refine sg_set (d := Wd ds (0 : Nat)) (ev_disp (eps_cons ev_C rfl hd (eps_cons ev_C rfl (ev_C (d := .int 0)) eps_nil)) ⟨trivial, trivial, trivial⟩ rfl) (hr ds) hj
/-! comparers -/
theorem ev_eqd {f : M Rs} {d : D} (h : f [.fz d, .fz d] = .ok (.fz (.bool true)) [.fz d, .fz d]) : Ev [.fz d, .fz d] f .val (.bool true) [.fz d, .fz d] := ev_sp (r := .fz (.bool true)) (fun ρ e => by
  obtain ⟨s, t, rfl, h1, h2⟩ := ec_2 e
  have h1 : s = .fz d := h1
  have h2 : t = .fz d := h2
  subst h1; subst h2
  exact ⟨_, h, e⟩) rfl
theorem tv_alike {α : Type} (enc : α → D) (n : Nat) (x y : α) (ho : okV n (enc x)) (h : x = y) : Ev [.fz (enc x), .fz (enc y)] (alikeF n) .val (.bool true) [.fz (enc x), .fz (enc y)] := by subst h; exact ev_eqd (alike_ok n _ ho)
theorem okv_n {n : Nat} {z : Nat} : okV (n + 1) (eN z) := trivial
theorem okv_s {n : Nat} {z : OkS} : okV (n + 1) (eS z) := trivial
theorem okv_tl {α : Type} {enc : α → D} {n : Nat} {xs : List α} (hl : xs.length ≤ 100000) (h : ∀ x ∈ xs, okV n (enc x)) : okV (n + 1) (eT enc xs) := ⟨by rw [List.length_map]; exact hl, fun d hd => by
  obtain ⟨x, hx, rfl⟩ := List.mem_map.mp hd; exact h x hx⟩
/-! the end -/
theorem law_of {f : M Rs} (h : ∀ script : List Int, script.length ≤ 63 → ∃ E', Ev [.fz (eL eI script)] f .val (eB true) E') : LawOk f := fun script hs => by
  obtain ⟨E', _, h⟩ := h script hs
  obtain ⟨r, ρ', e, q, _⟩ := h [.fz (.list (script.map .int))] ⟨rfl, trivial⟩
  have q : r = .fz (.bool true) := q
  subst q
  exact ⟨ρ', e⟩
end
end TL
namespace TL
theorem lawpT {p : Prop} (h : p := by first | rfl | (simp; done) | fail "LAWP") : p := h
end TL
namespace TL
theorem lt_of_get {α : Type} {xs : List α} {k : Nat} {x : α} (h : xs[k]? = some x) : k < xs.length := (List.getElem?_eq_some_iff.mp h).1
end TL
/-! TL10: from equations; choices that are handed on; states of draws -/
namespace TL
open PySem L2 DL
section
variable {E E1 : List Ms} {a : M Rs} {k : Kd}
theorem ea_consO {f : M (List Rs)} {ks : List Kd} {ds : List D} {i : Nat} {d d0 : D} (h : E[i]? = some (.ow d0)) (hf : Ea E f ks ds E1) : Ea E (dCons (dVar i) f) (.own i :: ks) (d :: ds) E1 := fun ρ e => by
  obtain ⟨r, ρ1, e1, q1, c1⟩ := (ev_ow h).2 ρ e
  obtain ⟨rs, ρ2, e2, q2, c2⟩ := hf ρ1 c1
  exact ⟨r :: rs, ρ2, by unfold dCons; rw [bd_eq e1, bd_eq e2]; rfl, ⟨q1, q2⟩, c2⟩
end
theorem mapS_all {α β σ : Type} {f : σ → α → β × σ} (p : β → Prop) (h : ∀ s x, p (f s x).1) : ∀ (xs : List α) (s : σ), ∀ y ∈ (mapS f s xs).1, p y
  | [], s, y, hy => by simp [mapS] at hy
  | x :: xs, s, y, hy => by
    rcases List.mem_cons.mp hy with z | z
    · rw [z]; exact h s x
    · exact mapS_all p h xs _ y z
end TL
/-! TL11: order of data by values; more rules -/
namespace TL
open PySem L2 DL
def isTupC : D → Prop
  | .tuple (_ :: _) => True
  | _ => False
def isAtom : D → Prop
  | .none => False
  | .tuple _ => False
  | _ => True
abbrev tks (d : D) : List (Int ⊕ List Nat) := PySem.W.keyToks d
/-- values whose data can be put in order -/
structure So {α : Type} (n : Nat) (enc : α → D) : Prop where
  al : ∀ a b, PySem.W.alike (enc a) (enc b) = true
  nd : ∀ a, noD (enc a) = true
  nn : ∀ a, isNone (enc a) = false
  dp : ∀ a, (enc a).depth ≤ n
  inj : ∀ a b l m, tks (enc a) ++ l = tks (enc b) ++ m → a = b ∧ l = m
section
variable {α β γ δ : Type} {n : Nat} {enc : α → D} {ea : α → D} {eb : β → D} {ec : γ → D} {ed : δ → D}
theorem So.le {m : Nat} (h : So n enc) (hm : n ≤ m) : So m enc := ⟨h.al, h.nd, h.nn, fun a => Nat.le_trans (h.dp a) hm, h.inj⟩
theorem so_int : So n eI := ⟨fun _ _ => by simp [PySem.W.alike], fun _ => by simp [noD], fun _ => rfl, fun _ => by simp [PyData.depth], fun a b l m h => by
  simp [tks, PySem.W.keyToks] at h; exact h⟩
theorem so_nat : So n eN := ⟨fun _ _ => by simp [PySem.W.alike], fun _ => by simp [noD], fun _ => rfl, fun _ => by simp [PyData.depth], fun a b l m h => by
  simp [tks, PySem.W.keyToks] at h; exact ⟨by omega, h.2⟩⟩
theorem toksA_c {x : D} {xs : List D} : PySem.W.keyToksAll (x :: xs) = .inl 1 :: (tks x ++ PySem.W.keyToksAll xs) := by simp [PySem.W.keyToksAll]
theorem toksA_0 : PySem.W.keyToksAll [] = [.inl 0] := by simp [PySem.W.keyToksAll]
theorem tks_t {xs : List D} : tks (.tuple xs) = PySem.W.keyToksAll xs := by simp [tks, PySem.W.keyToks]
theorem alike_t {xs ys : List D} : PySem.W.alike (.tuple xs) (.tuple ys) = PySem.W.alikeAll xs ys := by simp [PySem.W.alike]
theorem alikeA_c {x y : D} {xs ys : List D} : PySem.W.alikeAll (x :: xs) (y :: ys) = (PySem.W.alike x y && PySem.W.alikeAll xs ys) := by simp [PySem.W.alikeAll]
theorem alikeA_0 : PySem.W.alikeAll [] [] = true := by simp [PySem.W.alikeAll]
theorem so_2 (ha : So n ea) (hb : So n eb) : So (n + 1) (e2 ea eb) := ⟨fun a b => by rw [alike_t, alikeA_c, alikeA_c, ha.al, hb.al, alikeA_0]; rfl, fun a => by simp [noD, noDA, ha.nd, hb.nd], fun _ => rfl,
  fun a => by have := ha.dp a.1; have := hb.dp a.2; simp [PyData.depth, PyData.depthAll]; omega, fun a b l m h => by
  rw [tks_t, tks_t, toksA_c, toksA_c, toksA_c, toksA_c, toksA_0] at h
  simp only [List.cons_append, List.append_assoc, List.cons.injEq, true_and] at h
  obtain ⟨h1, h⟩ := ha.inj _ _ _ _ h
  simp only [List.cons_append, List.append_assoc, List.cons.injEq, true_and] at h
  obtain ⟨h2, h⟩ := hb.inj _ _ _ _ h
  simp at h
  exact ⟨Prod.ext h1 h2, h⟩⟩
/-! the order -/
def leG (enc : α → D) (a b : α) : Bool := PySem.W.dataLe false id (enc a) (enc b)
def ltG (enc : α → D) (a b : α) : Bool := PySem.W.dataLt (enc a) (enc b)
theorem leG_lt {a b : α} : leG enc a b = !ltG enc b a := by unfold leG ltG; exact dataLe_D _ _
theorem leG_trans (a b c : α) (h1 : leG enc a b = true) (h2 : leG enc b c = true) : leG enc a c = true := (PySem.W.sortLe_total (PyProof.Rows.listOrd PyProof.Rows.itemOrd) false (fun x : D => PySem.W.keyToks (id x))).trans (enc a) (enc b) (enc c) h1 h2
theorem leG_total (a b : α) : (leG enc a b || leG enc b a) = true := by
  rw [Bool.or_eq_true]; exact (PySem.W.sortLe_total (PyProof.Rows.listOrd PyProof.Rows.itemOrd) false (fun x : D => PySem.W.keyToks (id x))).total (enc a) (enc b)
theorem leG_anti (h : So n enc) (a b : α) (h1 : leG enc a b = true) (h2 : leG enc b a = true) : a = b := by
  rw [leG_lt] at h1 h2
  have e : tks (enc a) = tks (enc b) := (PyProof.Rows.listOrd PyProof.Rows.itemOrd).total _ _ (by simpa [ltG, PySem.W.dataLt] using h2) (by simpa [ltG, PySem.W.dataLt] using h1)
  exact (h.inj a b [] [] (by rw [e])).1
theorem leG_refl (a : α) : leG enc a a = true := by have := leG_total (enc := enc) a a; simpa using this
theorem sortOk_G (h : So n enc) (hn : n ≤ 60) (hk : (∀ a, isTupC (enc a)) ∨ ∀ a, isAtom (enc a)) {xs : List α} (hl : xs.length ≤ 16777216) : sortOk (xs.map enc) = true := by
  unfold sortOk
  simp only [Bool.and_eq_true, Bool.or_eq_true, List.all_eq_true, decide_eq_true_eq]
  refine ⟨⟨⟨⟨fun d hd e he => ?_, fun d hd => ?_⟩, ?_⟩, fun d hd => ?_⟩, by rw [List.length_map, sizeLine_eq]; exact hl⟩
  · obtain ⟨x, _, rfl⟩ := List.mem_map.mp hd
    obtain ⟨y, _, rfl⟩ := List.mem_map.mp he
    exact h.al x y
  · obtain ⟨x, _, rfl⟩ := List.mem_map.mp hd; exact h.nd x
  · rcases hk with hk | hk
    · refine .inl fun d hd => ?_
      obtain ⟨x, _, rfl⟩ := List.mem_map.mp hd
      have := hk x
      cases e : enc x with
      | tuple ds => rw [e] at this; cases ds with
        | nil => exact this.elim
        | cons _ _ => rfl
      | _ => rw [e] at this; exact this.elim
    · refine .inr fun d hd => ?_
      obtain ⟨x, _, rfl⟩ := List.mem_map.mp hd
      have := hk x
      cases e : enc x <;> rw [e] at this <;> first | rfl | exact this.elim
  · obtain ⟨x, _, rfl⟩ := List.mem_map.mp hd; have := h.dp x; omega
end
end TL
/-! TL12: dicts of pairs, comparers by size, places from behind -/
namespace TL
open PySem L2 DL
end TL
/-! TL13: plain facts for the laws that follow -/
namespace TL
open PySem L2 DL
section
variable {α β σ γ : Type}
theorem getD_lt' {xs : List α} {a : Nat} (d : α) (h : a < xs.length) : xs.getD a d = xs[a] := by rw [List.getD_eq_getElem?_getD, List.getElem?_eq_getElem h]; rfl
theorem getD_mem' {xs : List α} {a : Nat} (d : α) (h : a < xs.length) : xs.getD a d ∈ xs := by rw [getD_lt' d h]; exact List.getElem_mem h
/-! dicts by text -/
/-! the order of texts -/
end
end TL
/-! TL14: list(dict) -/
namespace TL
open PySem L2 DL
end TL
/-! TL15: sorted(d.items()), insert, ranges down, draws in the test of a comprehension -/
namespace TL
open PySem L2 DL
end TL
/-! TL16: dict.get, list(d.items()) -/
namespace TL
open PySem L2 DL
end TL
/-! TL17: results of two shapes, == with any data -/
namespace TL
open PySem L2 DL
theorem scQ {p : Prop} (h : p := by first
  | omega
  | assumption
  | (simp only [List.mem_range, List.mem_range'_1, List.length_map, List.length_append, List.length_cons, List.length_nil, List.length_range, List.length_range', List.length_set, List.length_reverse, List.length_replicate, mapS_len]; omega)
  | fail "SC") : p := h
end TL
namespace TL
open PySem L2 DL
end TL
/-! TL18: texts -/
namespace TL
open PySem L2 DL
section
variable {E E1 E2 E3 : List Ms} {m a b c e fi fe : M Rs} {k ka kb kc : Kd} {x y : Int} {p q : Nat} {s t : OkS}
theorem not_dec {p : Prop} [Decidable p] (h : (!decide p) = true) : ¬p := by simpa using h
end
end TL
/-! TL19: bodies: trees of nodes -/
namespace TL
open PySem L2 DL
theorem Tg.eq {g : DG} {d d' : D} {E E' : List Ms} (e : d = d') (h : Tg g d E E') : Tg g d' E E' := e ▸ h
/-! levels -/
/-! data of bodies -/
/-! nodes and paths -/
end TL
/-! TL20: plain facts of bodies -/
namespace TL
open PySem L2 DL
/-! the node at a path -/
/-! all paths by a pile -/
/-! a node put at a path -/
end TL
/-! TL21: invariants of the loops over bodies -/
namespace TL
open PySem L2 DL
end TL
/-! TL22: sorted(dict(..)) and sorted(set(..)) are one -/
namespace TL
open PySem L2 DL
end TL
/-! TL23: parts of results of two shapes, is of truths, != of the same data -/
namespace TL
open PySem L2 DL
end TL
/-! TL24: min and max of a list of tuples -/
namespace TL
open PySem L2 DL
section
variable {E E1 : List Ms} {a : M Rs} {k : Kd} {α : Type} {enc : α → D} {n : Nat}
def minG (enc : α → D) (df : α) : List α → α
  | [] => df
  | x :: xs => xs.foldl (fun b y => if ltG enc y b then y else b) x
theorem minD_G (df : α) : ∀ (xs : List α) (x : α), PySem.W.minD (enc x) (xs.map enc) = enc (minG enc df (x :: xs))
  | [], x => rfl
  | y :: ys, x => by
    have h : PySem.W.minD (enc x) ((y :: ys).map enc) = PySem.W.minD (enc (if ltG enc y x then y else x)) (ys.map enc) := by
      show List.foldl _ (if PySem.W.dataLt (enc y) (enc x) = true then enc y else enc x) _ = _
      unfold PySem.W.minD ltG
      by_cases hb : PySem.W.dataLt (enc y) (enc x) = true
      · rw [if_pos hb, if_pos hb]
      · rw [if_neg hb, if_neg hb]
    rw [h, minD_G df ys]; rfl
theorem intsOf_t {d : D} {ds : List D} (h : isTupC d) : intsOf (d :: ds) = none := by
  cases d with
  | tuple xs => rfl
  | _ => exact h.elim
theorem gMinX_G (df : α) (h : So n enc) (hk : ∀ a, isTupC (enc a)) (hn : n ≤ 60) {xs : List α} (hx : xs ≠ []) (hl : xs.length ≤ 16777216) : gMinX [.list (xs.map enc)] = some (.fz (enc (minG enc df xs))) := by
  cases xs with
  | nil => exact absurd rfl hx
  | cons x xs =>
    have e : gMin [.list ((x :: xs).map enc)] = none := by
      show (intsOf (enc x :: xs.map enc)).bind _ = none
      rw [intsOf_t (hk x)]; rfl
    unfold gMinX
    rw [e]
    show (if sortOk ((x :: xs).map enc) = true then _ else _) = _
    rw [if_pos (sortOk_G h hn (.inl hk) hl), minD_G df]
theorem ev_minG (df : α) {xs : List α} (h : So n enc) (hk : ∀ a, isTupC (enc a)) (ha : Ev E a k (.list (xs.map enc)) E1) (hx : xs ≠ []) (hl : xs.length ≤ 16777216) (hn : n ≤ 60 := by decide) : Ev E (dB gMinX (dCons a dNil)) .val (enc (minG enc df xs)) E1 := ev_B1v ha (gMinX_G df h hk hn hx hl)
/-! what the least is -/
theorem minG_ok (df : α) : ∀ (xs : List α) (x : α), minG enc df (x :: xs) ∈ x :: xs ∧ ∀ y ∈ x :: xs, leG enc (minG enc df (x :: xs)) y = true
  | [], x => ⟨by simp [minG], fun y hy => by simp at hy; subst hy; exact leG_refl y⟩
  | y :: ys, x => by
    have h := minG_ok df ys (if ltG enc y x then y else x)
    have e : minG enc df (x :: y :: ys) = minG enc df ((if ltG enc y x then y else x) :: ys) := rfl
    rw [e]
    refine ⟨?_, fun z hz => ?_⟩
    · rcases List.mem_cons.mp h.1 with q | q
      · rw [q]; split <;> simp
      · exact List.mem_cons_of_mem _ (List.mem_cons_of_mem _ q)
    · have hh := h.2 _ List.mem_cons_self
      rcases List.mem_cons.mp hz with q | q
      · subst q
        refine leG_trans _ _ _ hh ?_
        split
        · rename_i hb
          have := leG_total (enc := enc) y z
          rw [leG_lt (a := z) (b := y), hb] at this
          simpa using this
        · exact leG_refl z
      · rcases List.mem_cons.mp q with q | q
        · subst q
          refine leG_trans _ _ _ hh ?_
          split
          · exact leG_refl z
          · rename_i hb
            rw [leG_lt]; simpa using hb
        · exact h.2 z (List.mem_cons_of_mem _ q)
theorem minG_mem {df : α} {xs : List α} (h : xs ≠ []) : minG enc df xs ∈ xs := by
  cases xs with
  | nil => exact absurd rfl h
  | cons x xs => exact (minG_ok df xs x).1
theorem minG_le {df : α} {xs : List α} {y : α} (h : y ∈ xs) : leG enc (minG enc df xs) y = true := by
  cases xs with
  | nil => simp at h
  | cons x xs => exact (minG_ok df xs x).2 y h
theorem minG_eq (hs : So n enc) {df : α} {xs : List α} {m : α} (hm : m ∈ xs) (h : ∀ y ∈ xs, leG enc m y = true) : minG enc df xs = m :=
  leG_anti hs _ _ (minG_le hm) (h _ (minG_mem (List.ne_nil_of_mem hm)))
end
theorem tk_pair {a : Int} {k : Nat} : PySem.W.keyToks (e2 eI eN (a, k)) = [.inl 1, .inl a, .inl 1, .inl (k : Int), .inl 0] := by
  show PySem.W.keyToks (.tuple [.int a, .int (k : Int)]) = _
  simp [PySem.W.keyToks, PySem.W.keyToksAll]
theorem lex_int {a b : Int} : PyProof.Rows.lexLt PyProof.Rows.itemOrd [.inl a] [.inl b] = decide (a < b) := by
  simp [PyProof.Rows.lexLt, PyProof.Rows.itemOrd, PyProof.Rows.itemLt]
theorem lt_pair {a b : Int} {k l : Nat} : ltG (e2 eI eN) (a, k) (b, l) = decide (a < b ∨ (a = b ∧ k < l)) := by
  unfold ltG PySem.W.dataLt
  rw [tk_pair, tk_pair]
  by_cases h : a = b
  · subst h
    refine (PySem.W.lex_pre [.inl 1, .inl a, .inl 1] [.inl (k : Int), .inl 0] [.inl (l : Int), .inl 0]).trans ?_
    by_cases h2 : k = l
    · subst h2
      refine (PyProof.Rows.itemOrd |> PyProof.Rows.listOrd).irrefl [.inl (k : Int), .inl 0] |>.trans ?_
      simp
    · rw [PySem.W.lex_atom (fun z => h2 (by have := Sum.inl.inj z; omega)), lex_int]
      simp
  · refine (PySem.W.lex_pre [.inl 1] (.inl a :: [.inl 1, .inl (k : Int), .inl 0]) (.inl b :: [.inl 1, .inl (l : Int), .inl 0])).trans ?_
    rw [PySem.W.lex_atom (fun z => h (by simpa using z)), lex_int]
    simp [h]
end TL
set_option maxHeartbeats 3200000
namespace Lawk29
open PySem PySem.Spec PyProof.Rows L2 DL
def topS (i : Nat) : Stmt := PySem.Challenge.pw_amendwarrant_k29_which_version_a_case_fa.main.body.getD i (.Pass ⟨0, 0, 0, 0⟩)
section
variable {P : Program} {w : World} {K : PySem.W.Frag} {mg : Str → Option Value} {base : Heap}
/-! ### _law_draws -/
abbrev s__law_draws : Stmt := topS 8
theorem sc__law_draws : FnScope ["script", "many", "draws", "mixed", "k", "cell", "rest", "turn"] ["script", "many"] (defScope s__law_draws) := ⟨rfl, rfl, rfl, by decide +kernel, rfl, by decide +kernel, by decide +kernel⟩
def b__law_draws : DS :=
 (dSeq (dSet 2 (dLst dNil))
 (dSeq (dSet 3 (dC (.int 7)))
 (dSeq (dFor (dRng1 (dCons (dB gLen (dCons (dVar 0) dNil)) dNil)) (gN 4)
 ((dSeq (dSet 5 (dB gAbs (dCons (dB gInt (dCons (dOp2 gIx (dVar 0) (dVar 4)) dNil)) dNil)))
 (dSeq (dSet 3 (dOp2 gMod (dB gInt (dCons (dOp2 gAdd (dOp2 gAdd (dOp2 gMul (dVar 3) (dC (.int 48271))) (dOp2 gMod (dVar 5) (dC (.int 1000003)))) (dVar 4)) dNil)) (dC (.int 65537))))
 (dSeq (dSet 6 (dC (.int 0)))
 (dSeq (dIf (dOp2T gGe (dVar 5) (dOp2 gPow (dC (.int 10)) (dC (.int 18))))
 ((dSet 6 (dVar 5)))
 ((dSeq (dDrop (dMut 2 isLst true gAppend (dCons (dOp2 gMod (dB gInt (dCons (dVar 5) dNil)) (dC (.int 997))) dNil)))
 (dDrop (dMut 2 isLst true gAppend (dCons (dOp2 gMod (dOp2 gMod (dB gInt (dCons (dOp2 gAdd (dOp2 gMul (dVar 3) (dC (.int 69621))) (dC (.int 5))) dNil)) (dC (.int 65521))) (dC (.int 997))) dNil))))))
 (dFor (dRng1 (dCons (dC (.int 60)) dNil)) (gN 7)
 ((dIf (dOp2T gGt (dVar 6) (dC (.int 0)))
 ((dSeq (dDrop (dMut 2 isLst true gAppend (dCons (dOp2 gMod (dB gInt (dCons (dVar 6) dNil)) (dC (.int 997))) dNil)))
 (dSet 6 (dOp2 gDiv (dVar 6) (dC (.int 997))))))
 (dPass))))))))))
 (dSeq (dFor (dRng1 (dCons (dVar 1) dNil)) (gN 4)
 ((dSeq (dSet 3 (dOp2 gMod (dB gInt (dCons (dOp2 gAdd (dOp2 gAdd (dOp2 gMul (dVar 3) (dC (.int 16807))) (dVar 4)) (dC (.int 1))) dNil)) (dC (.int 65537))))
 (dDrop (dMut 2 isLst true gAppend (dCons (dOp2 gMod (dB gInt (dCons (dVar 3) dNil)) (dC (.int 997))) dNil))))))
 (dRet (dSl (dVar 2) dNoP (dPart (dVar 1))))))))
def f__law_draws : M Rs := runDef [true, true] 8 b__law_draws
theorem ok__law_draws {f : Addr} {fd : FuncData} (F : Fun K "_law_draws" "_law_draws" s__law_draws f fd) (m_range : mg "range" = none) (m_len : mg "len" = none) (m_abs : mg "abs" = none) (m_int : mg "int" = none) : FnOk P w K mg base CX0 1 f fd ["script", "many"] (spD K 2 f__law_draws) := by
  have nd := sc__law_draws.nd
  have h := fun_ok (P := P) (w := w) (K := K) (mg := mg) (base := base) (N := ["script", "many", "draws", "mixed", "k", "cell", "rest", "turn"]) (ps := ["script", "many"]) (ms := [true, true]) (body := b__law_draws) (k := 0) F sc__law_draws rfl (fun cdv A outer s H E hr =>
  (sc (sset (by decide) nd rfl (by first | exact .inl rfl | exact .inr rfl) (el an))
 (sc (sset (by decide) nd rfl (by first | exact .inl rfl | exact .inr rfl) ci)
 (sc (sfor PassesOwn.never rfl (ir1 (by rfl) m_range (ac (eB cLen (by rfl) m_len (by rfl) (ac (pv' 0) an)) an)) (gn (by decide) nd rfl (by first | exact .inl rfl | exact .inr rfl))
 (sc (sset (by decide) nd rfl (by first | exact .inl rfl | exact .inr rfl) (eB cAbs (by rfl) m_abs (by rfl) (ac (eTy cInt (by rfl) m_int (by rfl) (ac (eix (u1 hr) (pv' 0) (pv' 4)) an)) an)))
 (sc (sset (by decide) nd rfl (by first | exact .inl rfl | exact .inr rfl) (e2 oMod (eTy cInt (by rfl) m_int (by rfl) (ac (e2 oAdd (e2 oAdd (e2 oMul (pv' 3) ci) (e2 oMod (pv' 5) ci)) (pv' 4)) an)) ci))
 (sc (sset (by decide) nd rfl (by first | exact .inl rfl | exact .inr rfl) ci)
 (sc (sif (tcmp (oGe (u64 hr)) (pv' 5) (e2 oPow ci ci))
 (s1 (sset (by decide) nd rfl (by first | exact .inl rfl | exact .inr rfl) (pv' 5)))
 (sc (sex (emut PySem.F.plainAttrs_list PySem.F.slot_list_append PySem.F.type_list_append mt_append ty_lst m_append (pv 2) (ac (e2 oMod (eTy cInt (by rfl) m_int (by rfl) (ac (pv' 5) an)) ci) an)))
 (s1 (sex (emut PySem.F.plainAttrs_list PySem.F.slot_list_append PySem.F.type_list_append mt_append ty_lst m_append (pv 2) (ac (e2 oMod (e2 oMod (eTy cInt (by rfl) m_int (by rfl) (ac (e2 oAdd (e2 oMul (pv' 3) ci) ci) an)) ci) ci) an))))))
 (s1 (sfor PassesOwn.never rfl (ir1 (by rfl) m_range (ac ci an)) (gn (by decide) nd rfl (by first | exact .inl rfl | exact .inr rfl))
 (s1 (sif (tcmp (oGt (u64 hr)) (pv' 6) ci)
 (sc (sex (emut PySem.F.plainAttrs_list PySem.F.slot_list_append PySem.F.type_list_append mt_append ty_lst m_append (pv 2) (ac (e2 oMod (eTy cInt (by rfl) m_int (by rfl) (ac (pv' 6) an)) ci) an)))
 (s1 (sset (by decide) nd rfl (by first | exact .inl rfl | exact .inr rfl) (e2 oDiv (pv' 6) ci))))
 sn)))))))))
 (sc (sfor PassesOwn.never rfl (ir1 (by rfl) m_range (ac (pv' 1) an)) (gn (by decide) nd rfl (by first | exact .inl rfl | exact .inr rfl))
 (sc (sset (by decide) nd rfl (by first | exact .inl rfl | exact .inr rfl) (e2 oMod (eTy cInt (by rfl) m_int (by rfl) (ac (e2 oAdd (e2 oAdd (e2 oMul (pv' 3) ci) (pv' 4)) ci) an)) ci))
 (s1 (sex (emut PySem.F.plainAttrs_list PySem.F.slot_list_append PySem.F.type_list_append mt_append ty_lst m_append (pv 2) (ac (e2 oMod (eTy cInt (by rfl) m_int (by rfl) (ac (pv' 3) an)) ci) an))))))
 (s1 (sret (esl (pv' 2) pn (pp (pv' 1))))))))))
  exact h
/-! ### _law_next -/
abbrev s__law_next : Stmt := topS 9
theorem sc__law_next : FnScope ["w", "many"] ["w", "many"] (defScope s__law_next) := ⟨rfl, rfl, rfl, by decide +kernel, rfl, by decide +kernel, by decide +kernel⟩
def b__law_next : DS :=
 (dSeq (dAugS gIAdd 0 (dC (.str "at")) (dC (.int 1)))
 (dSeq (dIf (dOp2T gGt (dOp2 gIx (dVar 0) (dC (.str "at"))) (dB gLen (dCons (dOp2 gIx (dVar 0) (dC (.str "draws"))) dNil)))
 ((dRet (dC (.int 0))))
 (dPass))
 (dRet (dOp2 gMod (dB gInt (dCons (dOp2 gIx (dOp2 gIx (dVar 0) (dC (.str "draws"))) (dOp2 gSub (dOp2 gIx (dVar 0) (dC (.str "at"))) (dC (.int 1)))) dNil)) (dVar 1)))))
def f__law_next : M Rs := runDef [true, true] 2 b__law_next
theorem ok__law_next {f : Addr} {fd : FuncData} (F : Fun K "_law_next" "_law_next" s__law_next f fd) (m_len : mg "len" = none) (m_int : mg "int" = none) : FnOk P w K mg base CX0 1 f fd ["w", "many"] (spD K 2 f__law_next) := by
  have nd := sc__law_next.nd
  have h := fun_ok (P := P) (w := w) (K := K) (mg := mg) (base := base) (N := ["w", "many"]) (ps := ["w", "many"]) (ms := [true, true]) (body := b__law_next) (k := 0) F sc__law_next rfl (fun cdv A outer s H E hr =>
  (sc (saugs (u1 hr) pAdd (pv 0) cs ci)
 (sc (sif (tcmp (oGt (u64 hr)) (eix (u1 hr) (pv' 0) cs) (eB cLen (by rfl) m_len (by rfl) (ac (eix (u1 hr) (pv' 0) cs) an)))
 (s1 (sret ci))
 sn)
 (s1 (sret (e2 oMod (eTy cInt (by rfl) m_int (by rfl) (ac (eix (u1 hr) (eix (u1 hr) (pv' 0) cs) (e2 oSub (eix (u1 hr) (pv' 0) cs) ci)) an)) (pv' 1)))))))
  exact h
/-! ### _law_case -/
abbrev s__law_case : Stmt := topS 13
theorem sc__law_case : FnScope ["w", "begun", "done"] ["w"] (defScope s__law_case) := ⟨rfl, rfl, rfl, by decide +kernel, rfl, by decide +kernel, by decide +kernel⟩
def b__law_case : DS :=
 (dSeq (dSet 1 (dCall [true, true] f__law_next (dCons (dVar 0) (dCons (dC (.int 8)) dNil))))
 (dSeq (dSet 2 (dOp2 gAdd (dVar 1) (dCall [true, true] f__law_next (dCons (dVar 0) (dCons (dC (.int 6)) dNil)))))
 (dRet (dDisp [((dC (.str "begun")), (dVar 1)), ((dC (.str "done")), (dVar 2)), ((dC (.str "judged")), (dOp2 gAdd (dVar 2) (dCall [true, true] f__law_next (dCons (dVar 0) (dCons (dC (.int 8)) dNil)))))]))))
def f__law_case : M Rs := runDef [true] 3 b__law_case
theorem ok__law_case {f : Addr} {fd : FuncData} (F : Fun K "_law_case" "_law_case" s__law_case f fd) {f_a__law_next : Addr} {d__law_next : FuncData} (G__law_next : FnOk P w K mg base CX0 1 f_a__law_next d__law_next ["w", "many"] (spD K 2 f__law_next)) (g__law_next : mg "_law_next" = some (.ref f_a__law_next)) (k__law_next : PySem.W.keepIn K (.ref f_a__law_next) = true) (i__law_next : Binds K d__law_next ["w", "many"] []) : FnOk P w K mg base CX0 2 f fd ["w"] (spD K 1 f__law_case) := by
  have nd := sc__law_case.nd
  have h := fun_ok (P := P) (w := w) (K := K) (mg := mg) (base := base) (N := ["w", "begun", "done"]) (ps := ["w"]) (ms := [true]) (body := b__law_case) (k := 1) F sc__law_case rfl (fun cdv A outer s H E hr =>
  (sc (sset (by decide) nd rfl (by first | exact .inl rfl | exact .inr rfl) (ecall G__law_next (hr.mono (by omega)) (by rfl) g__law_next k__law_next i__law_next rfl (ac (pv' 0) (ac ci an))))
 (sc (sset (by decide) nd rfl (by first | exact .inl rfl | exact .inr rfl) (e2 oAdd (pv' 1) (ecall G__law_next (hr.mono (by omega)) (by rfl) g__law_next k__law_next i__law_next rfl (ac (pv' 0) (ac ci an)))))
 (s1 (sret (edi (pps_cons cs (pv' 1) (pps_cons cs (pv' 2) (pps_cons cs (e2 oAdd (pv' 2) (ecall G__law_next (hr.mono (by omega)) (by rfl) g__law_next k__law_next i__law_next rfl (ac (pv' 0) (ac ci an)))) pps_nil)))))))))
  exact h
/-! ### _law_versions -/
abbrev s__law_versions : Stmt := topS 12
theorem sc__law_versions : FnScope ["w", "found", "day", "k"] ["w"] (defScope s__law_versions) := ⟨rfl, rfl, rfl, by decide +kernel, rfl, by decide +kernel, by decide +kernel⟩
def b__law_versions : DS :=
 (dSeq (dPar [1, 2] (dCons (dLst (dCons (dTup (dCons (dC .none) (dCons (dCall [true, true] f__law_next (dCons (dVar 0) (dCons (dC (.int 5)) dNil))) dNil))) dNil)) (dCons (dC (.int 0)) dNil)))
 (dSeq (dFor (dRng1 (dCons (dCall [true, true] f__law_next (dCons (dVar 0) (dCons (dC (.int 5)) dNil))) dNil)) (gN 3)
 ((dSeq (dAug gIAdd 2 (dOp2 gAdd (dC (.int 1)) (dCall [true, true] f__law_next (dCons (dVar 0) (dCons (dC (.int 4)) dNil)))))
 (dDrop (dMut 1 isLst true gAppend (dCons (dTup (dCons (dVar 2) (dCons (dCall [true, true] f__law_next (dCons (dVar 0) (dCons (dC (.int 5)) dNil))) dNil))) dNil))))))
 (dRet (dB gTuple (dCons (dVar 1) dNil)))))
def f__law_versions : M Rs := runDef [true] 4 b__law_versions
theorem ok__law_versions {f : Addr} {fd : FuncData} (F : Fun K "_law_versions" "_law_versions" s__law_versions f fd) {f_a__law_next : Addr} {d__law_next : FuncData} (G__law_next : FnOk P w K mg base CX0 1 f_a__law_next d__law_next ["w", "many"] (spD K 2 f__law_next)) (g__law_next : mg "_law_next" = some (.ref f_a__law_next)) (k__law_next : PySem.W.keepIn K (.ref f_a__law_next) = true) (i__law_next : Binds K d__law_next ["w", "many"] []) (m_range : mg "range" = none) (m_tuple : mg "tuple" = none) : FnOk P w K mg base CX0 2 f fd ["w"] (spD K 1 f__law_versions) := by
  have nd := sc__law_versions.nd
  have h := fun_ok (P := P) (w := w) (K := K) (mg := mg) (base := base) (N := ["w", "found", "day", "k"]) (ps := ["w"]) (ms := [true]) (body := b__law_versions) (k := 1) F sc__law_versions rfl (fun cdv A outer s H E hr =>
  (sc (spar (by decide) (by decide) rfl nd rfl rfl (by decide) rfl rfl (ac (el (ac (et (ac cn (ac (ecall G__law_next (hr.mono (by omega)) (by rfl) g__law_next k__law_next i__law_next rfl (ac (pv' 0) (ac ci an))) an))) an)) (ac ci an)))
 (sc (sfor PassesOwn.never rfl (ir1 (by rfl) m_range (ac (ecall G__law_next (hr.mono (by omega)) (by rfl) g__law_next k__law_next i__law_next rfl (ac (pv' 0) (ac ci an))) an)) (gn (by decide) nd rfl (by first | exact .inl rfl | exact .inr rfl))
 (sc (saug (by decide) pAdd nd rfl (by first | exact .inl rfl | exact .inr rfl) (e2 oAdd ci (ecall G__law_next (hr.mono (by omega)) (by rfl) g__law_next k__law_next i__law_next rfl (ac (pv' 0) (ac ci an)))))
 (s1 (sex (emut PySem.F.plainAttrs_list PySem.F.slot_list_append PySem.F.type_list_append mt_append ty_lst m_append (pv 1) (ac (et (ac (pv' 2) (ac (ecall G__law_next (hr.mono (by omega)) (by rfl) g__law_next k__law_next i__law_next rfl (ac (pv' 0) (ac ci an))) an))) an))))))
 (s1 (sret (eTy cTuple (by rfl) m_tuple (by rfl) (ac (pv' 1) an)))))))
  exact h
/-! ### _law_alike -/
abbrev s__law_alike : Stmt := topS 11
theorem sc__law_alike : FnScope ["given", "due", "k"] ["given", "due"] (defScope s__law_alike) := ⟨rfl, rfl, rfl, by decide +kernel, rfl, by decide +kernel, by decide +kernel⟩
def b__law_alike (self : M Rs) : DS :=
 (dSeq (dIf (dTru (dIsi .tuple (dVar 1)))
 ((dSeq (dIf (dOr (dNot (dTru (dIsi .tuple (dVar 0)))) (dOp2T gNe (dB gLen (dCons (dVar 0) dNil)) (dB gLen (dCons (dVar 1) dNil))))
 ((dRet (dC (.bool false))))
 (dPass))
 (dRet (dOp2 (gB gEq) (dLc [2] (dRng1 (dCons (dB gLen (dCons (dVar 1) dNil)) dNil)) (gN 2) (dNot (dTru (dCall [true, true] self (dCons (dOp2 gIx (dVar 0) (dVar 2)) (dCons (dOp2 gIx (dVar 1) (dVar 2)) dNil))))) (dVar 2)) (dLst dNil)))))
 (dPass))
 (dSeq (dIf (dOp2T gIs (dVar 1) (dC .none))
 ((dRet (dOp2 (gB gIs) (dVar 0) (dC .none))))
 (dPass))
 (dSeq (dIf (dTru (dIsi .bool (dVar 1)))
 ((dRet (dAndV (dIsi .bool (dVar 0)) (dOp2 (gB gEq) (dVar 0) (dVar 1)))))
 (dPass))
 (dSeq (dIf (dTru (dIsi .int (dVar 1)))
 ((dRet (dAndV (dIsi .int (dVar 0)) (dAndV (dNotV (dIsi .bool (dVar 0))) (dOp2 (gB gEq) (dVar 0) (dVar 1))))))
 (dPass))
 (dRet (dAndV (dIsi .str (dVar 0)) (dOp2 (gB gEq) (dVar 0) (dVar 1))))))))
def f__law_alike : Nat → M Rs
  | 0 => fun _ => .bad
  | d + 1 => runDef [true, true] 3 (b__law_alike (f__law_alike d))
theorem ok__law_alike {f : Addr} {fd : FuncData} (F : Fun K "_law_alike" "_law_alike" s__law_alike f fd) (g__law_alike : mg "_law_alike" = some (.ref f)) (i__law_alike : Binds K fd ["given", "due"] []) (m_isinstance : mg "isinstance" = none) (m_tuple : mg "tuple" = none) (m_len : mg "len" = none) (m_range : mg "range" = none) (m_bool : mg "bool" = none) (m_int : mg "int" = none) (m_str : mg "str" = none) : ∀ d, FnOk P w K mg base CX0 (0 + d) f fd ["given", "due"] (spD K 2 (f__law_alike d))
  | 0 => fnok_bad
  | d + 1 => by
    have nd := sc__law_alike.nd
    have G__law_alike := ok__law_alike F g__law_alike i__law_alike m_isinstance m_tuple m_len m_range m_bool m_int m_str d
    have k__law_alike := F.kp
    have h := fun_ok (P := P) (w := w) (K := K) (mg := mg) (base := base) (N := ["given", "due", "k"]) (ps := ["given", "due"]) (ms := [true, true]) (body := b__law_alike (f__law_alike d)) (k := 0 + d) F sc__law_alike rfl (fun cdv A outer s H E hr =>
  (sc (sif (ttr (eisi .tuple (by rfl) m_isinstance (by rfl) m_tuple (by rfl) (pv' 1)))
 (sc (sif (twp (wor (tnot (ttr (eisi .tuple (by rfl) m_isinstance (by rfl) m_tuple (by rfl) (pv' 0)))) (wor1 (tcmp (oNe (u64 hr)) (eB cLen (by rfl) m_len (by rfl) (ac (pv' 0) an)) (eB cLen (by rfl) m_len (by rfl) (ac (pv' 1) an))))))
 (s1 (sret cb))
 sn)
 (s1 (sret (ecmp (oEq (u64 hr)) (lc (own := [("k", 2)]) rfl nd (ir1 (by rfl) m_range (ac (eB cLen (by rfl) m_len (by rfl) (ac (pv' 1) an)) an)) (blkOk_by (by rfl)) (fun _ _ _ _ _ => (gn (by decide) nd rfl (by first | exact .inl rfl | exact .inr rfl))) (fun _ _ _ _ _ => (t1 (tnot (ttr (ecall G__law_alike (hr.mono (by omega)) (by rfl) g__law_alike k__law_alike i__law_alike rfl (ac (eix (u1 hr) (pv' 0) (pv' 2)) (ac (eix (u1 hr) (pv' 1) (pv' 2)) an))))))) (fun _ _ _ _ _ => (pv' 2))) (el an)))))
 sn)
 (sc (sif (tcmp oIs (pv' 1) cn)
 (s1 (sret (ecmp oIs (pv' 0) cn)))
 sn)
 (sc (sif (ttr (eisi .bool (by rfl) m_isinstance (by rfl) m_bool (by rfl) (pv' 1)))
 (s1 (sret (evand (eisi .bool (by rfl) m_isinstance (by rfl) m_bool (by rfl) (pv' 0)) (evone (ecmp (oEq (u64 hr)) (pv' 0) (pv' 1))))))
 sn)
 (sc (sif (ttr (eisi .int (by rfl) m_isinstance (by rfl) m_int (by rfl) (pv' 1)))
 (s1 (sret (evand (eisi .int (by rfl) m_isinstance (by rfl) m_int (by rfl) (pv' 0)) (evand (evnot (eisi .bool (by rfl) m_isinstance (by rfl) m_bool (by rfl) (pv' 0))) (evone (ecmp (oEq (u64 hr)) (pv' 0) (pv' 1)))))))
 sn)
 (s1 (sret (evand (eisi .str (by rfl) m_isinstance (by rfl) m_str (by rfl) (pv' 0)) (evone (ecmp (oEq (u64 hr)) (pv' 0) (pv' 1)))))))))))
    exact h
/-! ### _law_on -/
abbrev s__law_on : Stmt := topS 14
theorem sc__law_on : FnScope ["versions", "day", "k"] ["versions", "day"] (defScope s__law_on) := ⟨rfl, rfl, rfl, by decide +kernel, rfl, by decide +kernel, by decide +kernel⟩
def b__law_on : DS :=
 (dRet (dB gLen (dCons (dLc [2] (dRng2 (dCons (dC (.int 1)) (dCons (dB gLen (dCons (dVar 0) dNil)) dNil))) (gN 2) (dOp2T gLe (dOp2 gIx (dOp2 gIx (dVar 0) (dVar 2)) (dC (.int 0))) (dVar 1)) (dVar 2)) dNil)))
def f__law_on : M Rs := runDef [true, true] 3 b__law_on
theorem ok__law_on {f : Addr} {fd : FuncData} (F : Fun K "_law_on" "_law_on" s__law_on f fd) (m_len : mg "len" = none) (m_range : mg "range" = none) : FnOk P w K mg base CX0 1 f fd ["versions", "day"] (spD K 2 f__law_on) := by
  have nd := sc__law_on.nd
  have h := fun_ok (P := P) (w := w) (K := K) (mg := mg) (base := base) (N := ["versions", "day", "k"]) (ps := ["versions", "day"]) (ms := [true, true]) (body := b__law_on) (k := 0) F sc__law_on rfl (fun cdv A outer s H E hr =>
  (s1 (sret (eB cLen (by rfl) m_len (by rfl) (ac (lc (own := [("k", 2)]) rfl nd (ir2 (by rfl) m_range (ac ci (ac (eB cLen (by rfl) m_len (by rfl) (ac (pv' 0) an)) an))) (blkOk_by (by rfl)) (fun _ _ _ _ _ => (gn (by decide) nd rfl (by first | exact .inl rfl | exact .inr rfl))) (fun _ _ _ _ _ => (t1 (tcmp (oLe (u64 hr)) (eix (u1 hr) (eix (u1 hr) (pv' 0) (pv' 2)) ci) (pv' 1)))) (fun _ _ _ _ _ => (pv' 2))) an)))))
  exact h
/-! ### version_on -/
abbrev s_version_on : Stmt := topS 1
theorem sc_version_on : FnScope ["versions", "day", "k"] ["versions", "day"] (defScope s_version_on) := ⟨rfl, rfl, rfl, by decide +kernel, rfl, by decide +kernel, by decide +kernel⟩
def b_version_on : DS :=
 (dRet (dOp2 gIx (dLc [2] (dRng1 (dCons (dB gLen (dCons (dVar 0) dNil)) dNil)) (gN 2) (dOr (dOp2T gIs (dOp2 gIx (dOp2 gIx (dVar 0) (dVar 2)) (dC (.int 0))) (dC .none)) (dOp2T gLe (dOp2 gIx (dOp2 gIx (dVar 0) (dVar 2)) (dC (.int 0))) (dVar 1))) (dVar 2)) (dOp1 gNeg (dC (.int 1)))))
def f_version_on : M Rs := runDef [true, true] 3 b_version_on
theorem ok_version_on {f : Addr} {fd : FuncData} (F : Fun K "version_on" "version_on" s_version_on f fd) (m_range : mg "range" = none) (m_len : mg "len" = none) : FnOk P w K mg base CX0 1 f fd ["versions", "day"] (spD K 2 f_version_on) := by
  have nd := sc_version_on.nd
  have h := fun_ok (P := P) (w := w) (K := K) (mg := mg) (base := base) (N := ["versions", "day", "k"]) (ps := ["versions", "day"]) (ms := [true, true]) (body := b_version_on) (k := 0) F sc_version_on rfl (fun cdv A outer s H E hr =>
  (s1 (sret (eix (u1 hr) (lc (own := [("k", 2)]) rfl nd (ir1 (by rfl) m_range (ac (eB cLen (by rfl) m_len (by rfl) (ac (pv' 0) an)) an)) (blkOk_by (by rfl)) (fun _ _ _ _ _ => (gn (by decide) nd rfl (by first | exact .inl rfl | exact .inr rfl))) (fun _ _ _ _ _ => (t1 (twp (wor (tcmp oIs (eix (u1 hr) (eix (u1 hr) (pv' 0) (pv' 2)) ci) cn) (wor1 (tcmp (oLe (u64 hr)) (eix (u1 hr) (eix (u1 hr) (pv' 0) (pv' 2)) ci) (pv' 1))))))) (fun _ _ _ _ _ => (pv' 2))) (e1 oNeg ci)))))
  exact h
/-! ### _law_falls -/
abbrev s__law_falls : Stmt := topS 15
theorem sc__law_falls : FnScope ["versions", "case", "way", "able", "least", "k"] ["versions", "case", "way"] (defScope s__law_falls) := ⟨rfl, rfl, rfl, by decide +kernel, rfl, by decide +kernel, by decide +kernel⟩
def b__law_falls : DS :=
 (dSeq (dIf (dOp2T gNe (dVar 2) (dC (.str "mildest")))
 ((dRet (dCall [true, true] f__law_on (dCons (dVar 0) (dCons (dOp2 gIx (dVar 1) (dVar 2)) dNil)))))
 (dPass))
 (dSeq (dSet 3 (dLRg (dRgA2 (dCall [true, true] f__law_on (dCons (dVar 0) (dCons (dOp2 gIx (dVar 1) (dC (.str "done"))) dNil))) (dOp2 gAdd (dCall [true, true] f__law_on (dCons (dVar 0) (dCons (dOp2 gIx (dVar 1) (dC (.str "judged"))) dNil))) (dC (.int 1))))))
 (dSeq (dSet 4 (dB gMin (dCons (dLc [5] (dWk (dVar 3)) (gN 5) dYes (dOp2 gIx (dOp2 gIx (dVar 0) (dVar 5)) (dC (.int 1)))) dNil)))
 (dRet (dOp2 gIx (dLc [5] (dWk (dVar 3)) (gN 5) (dOp2T gEq (dOp2 gIx (dOp2 gIx (dVar 0) (dVar 5)) (dC (.int 1))) (dVar 4)) (dVar 5)) (dC (.int 0)))))))
def f__law_falls : M Rs := runDef [true, true, true] 6 b__law_falls
theorem ok__law_falls {f : Addr} {fd : FuncData} (F : Fun K "_law_falls" "_law_falls" s__law_falls f fd) {f_a__law_on : Addr} {d__law_on : FuncData} (G__law_on : FnOk P w K mg base CX0 1 f_a__law_on d__law_on ["versions", "day"] (spD K 2 f__law_on)) (g__law_on : mg "_law_on" = some (.ref f_a__law_on)) (k__law_on : PySem.W.keepIn K (.ref f_a__law_on) = true) (i__law_on : Binds K d__law_on ["versions", "day"] []) (m_list : mg "list" = none) (m_range : mg "range" = none) (m_min : mg "min" = none) : FnOk P w K mg base CX0 2 f fd ["versions", "case", "way"] (spD K 3 f__law_falls) := by
  have nd := sc__law_falls.nd
  have h := fun_ok (P := P) (w := w) (K := K) (mg := mg) (base := base) (N := ["versions", "case", "way", "able", "least", "k"]) (ps := ["versions", "case", "way"]) (ms := [true, true, true]) (body := b__law_falls) (k := 1) F sc__law_falls rfl (fun cdv A outer s H E hr =>
  (sc (sif (tcmp (oNe (u64 hr)) (pv' 2) cs)
 (s1 (sret (ecall G__law_on (hr.mono (by omega)) (by rfl) g__law_on k__law_on i__law_on rfl (ac (pv' 0) (ac (eix (u1 hr) (pv' 1) (pv' 2)) an)))))
 sn)
 (sc (sset (by decide) nd rfl (by first | exact .inl rfl | exact .inr rfl) (elrg rfl (by rfl) m_list (rga2 (by rfl) m_range (ecall G__law_on (hr.mono (by omega)) (by rfl) g__law_on k__law_on i__law_on rfl (ac (pv' 0) (ac (eix (u1 hr) (pv' 1) cs) an))) (e2 oAdd (ecall G__law_on (hr.mono (by omega)) (by rfl) g__law_on k__law_on i__law_on rfl (ac (pv' 0) (ac (eix (u1 hr) (pv' 1) cs) an))) ci))))
 (sc (sset (by decide) nd rfl (by first | exact .inl rfl | exact .inr rfl) (eB (cMin rfl) (by rfl) m_min (by rfl) (ac (lc (own := [("k", 5)]) rfl nd (iw (pv' 3)) (blkOk_by (by rfl)) (fun _ _ _ _ _ => (gn (by decide) nd rfl (by first | exact .inl rfl | exact .inr rfl))) (fun _ _ _ _ _ => tn) (fun _ _ _ _ _ => (eix (u1 hr) (eix (u1 hr) (pv' 0) (pv' 5)) ci))) an)))
 (s1 (sret (eix (u1 hr) (lc (own := [("k", 5)]) rfl nd (iw (pv' 3)) (blkOk_by (by rfl)) (fun _ _ _ _ _ => (gn (by decide) nd rfl (by first | exact .inl rfl | exact .inr rfl))) (fun _ _ _ _ _ => (t1 (tcmp (oEq (u64 hr)) (eix (u1 hr) (eix (u1 hr) (pv' 0) (pv' 5)) ci) (pv' 4)))) (fun _ _ _ _ _ => (pv' 5))) ci)))))))
  exact h
/-! ### mildest -/
abbrev s_mildest : Stmt := topS 2
theorem sc_mildest : FnScope ["versions", "first", "last", "k"] ["versions", "first", "last"] (defScope s_mildest) := ⟨rfl, rfl, rfl, by decide +kernel, rfl, by decide +kernel, by decide +kernel⟩
def b_mildest : DS :=
 (dRet (dOp2 gIx (dB gMinX (dCons (dLc [3] (dRng2 (dCons (dVar 1) (dCons (dOp2 gAdd (dVar 2) (dC (.int 1))) dNil))) (gN 3) dYes (dTup (dCons (dOp2 gIx (dOp2 gIx (dVar 0) (dVar 3)) (dC (.int 1))) (dCons (dVar 3) dNil)))) dNil)) (dC (.int 1))))
def f_mildest : M Rs := runDef [true, true, true] 4 b_mildest
theorem ok_mildest {f : Addr} {fd : FuncData} (F : Fun K "mildest" "mildest" s_mildest f fd) (m_min : mg "min" = none) (m_range : mg "range" = none) : FnOk P w K mg base CX0 1 f fd ["versions", "first", "last"] (spD K 3 f_mildest) := by
  have nd := sc_mildest.nd
  have h := fun_ok (P := P) (w := w) (K := K) (mg := mg) (base := base) (N := ["versions", "first", "last", "k"]) (ps := ["versions", "first", "last"]) (ms := [true, true, true]) (body := b_mildest) (k := 0) F sc_mildest rfl (fun cdv A outer s H E hr =>
  (s1 (sret (eix (u1 hr) (eB (cMinX rfl (u64 hr)) (by rfl) m_min (by rfl) (ac (lc (own := [("k", 3)]) rfl nd (ir2 (by rfl) m_range (ac (pv' 1) (ac (e2 oAdd (pv' 2) ci) an))) (blkOk_by (by rfl)) (fun _ _ _ _ _ => (gn (by decide) nd rfl (by first | exact .inl rfl | exact .inr rfl))) (fun _ _ _ _ _ => tn) (fun _ _ _ _ _ => (et (ac (eix (u1 hr) (eix (u1 hr) (pv' 0) (pv' 3)) ci) (ac (pv' 3) an))))) an)) ci))))
  exact h
/-! ### falls_under -/
abbrev s_falls_under : Stmt := topS 3
theorem sc_falls_under : FnScope ["versions", "case", "way"] ["versions", "case", "way"] (defScope s_falls_under) := ⟨rfl, rfl, rfl, by decide +kernel, rfl, by decide +kernel, by decide +kernel⟩
def b_falls_under : DS :=
 (dSeq (dIf (dOp2T gEq (dVar 2) (dC (.str "mildest")))
 ((dRet (dCall [true, true, true] f_mildest (dCons (dVar 0) (dCons (dCall [true, true] f_version_on (dCons (dVar 0) (dCons (dOp2 gIx (dVar 1) (dC (.str "done"))) dNil))) (dCons (dCall [true, true] f_version_on (dCons (dVar 0) (dCons (dOp2 gIx (dVar 1) (dC (.str "judged"))) dNil))) dNil))))))
 (dPass))
 (dRet (dCall [true, true] f_version_on (dCons (dVar 0) (dCons (dOp2 gIx (dVar 1) (dVar 2)) dNil)))))
def f_falls_under : M Rs := runDef [true, true, true] 3 b_falls_under
theorem ok_falls_under {f : Addr} {fd : FuncData} (F : Fun K "falls_under" "falls_under" s_falls_under f fd) {f_a_mildest : Addr} {d_mildest : FuncData} (G_mildest : FnOk P w K mg base CX0 1 f_a_mildest d_mildest ["versions", "first", "last"] (spD K 3 f_mildest)) (g_mildest : mg "mildest" = some (.ref f_a_mildest)) (k_mildest : PySem.W.keepIn K (.ref f_a_mildest) = true) (i_mildest : Binds K d_mildest ["versions", "first", "last"] []) {f_a_version_on : Addr} {d_version_on : FuncData} (G_version_on : FnOk P w K mg base CX0 1 f_a_version_on d_version_on ["versions", "day"] (spD K 2 f_version_on)) (g_version_on : mg "version_on" = some (.ref f_a_version_on)) (k_version_on : PySem.W.keepIn K (.ref f_a_version_on) = true) (i_version_on : Binds K d_version_on ["versions", "day"] []) : FnOk P w K mg base CX0 2 f fd ["versions", "case", "way"] (spD K 3 f_falls_under) := by
  have nd := sc_falls_under.nd
  have h := fun_ok (P := P) (w := w) (K := K) (mg := mg) (base := base) (N := ["versions", "case", "way"]) (ps := ["versions", "case", "way"]) (ms := [true, true, true]) (body := b_falls_under) (k := 1) F sc_falls_under rfl (fun cdv A outer s H E hr =>
  (sc (sif (tcmp (oEq (u64 hr)) (pv' 2) cs)
 (s1 (sret (ecall G_mildest (hr.mono (by omega)) (by rfl) g_mildest k_mildest i_mildest rfl (ac (pv' 0) (ac (ecall G_version_on (hr.mono (by omega)) (by rfl) g_version_on k_version_on i_version_on rfl (ac (pv' 0) (ac (eix (u1 hr) (pv' 1) cs) an))) (ac (ecall G_version_on (hr.mono (by omega)) (by rfl) g_version_on k_version_on i_version_on rfl (ac (pv' 0) (ac (eix (u1 hr) (pv' 1) cs) an))) an))))))
 sn)
 (s1 (sret (ecall G_version_on (hr.mono (by omega)) (by rfl) g_version_on k_version_on i_version_on rfl (ac (pv' 0) (ac (eix (u1 hr) (pv' 1) (pv' 2)) an)))))))
  exact h
/-! ### same_ways -/
abbrev s_same_ways : Stmt := topS 4
theorem sc_same_ways : FnScope ["versions", "case", "due", "way"] ["versions", "case"] (defScope s_same_ways) := ⟨rfl, rfl, rfl, by decide +kernel, rfl, by decide +kernel, by decide +kernel⟩
def b_same_ways : DS :=
 (dSeq (dSet 2 (dCall [true, true, true] f_falls_under (dCons (dVar 0) (dCons (dVar 1) (dCons (dC (.str "done")) dNil)))))
 (dRet (dB gTuple (dCons (dLc [3] (dWk (dTup (dCons (dC (.str "begun")) (dCons (dC (.str "done")) (dCons (dC (.str "judged")) (dCons (dC (.str "mildest")) dNil)))))) (gN 3) (dOp2T gEq (dCall [true, true, true] f_falls_under (dCons (dVar 0) (dCons (dVar 1) (dCons (dVar 3) dNil)))) (dVar 2)) (dVar 3)) dNil))))
def f_same_ways : M Rs := runDef [true, true] 4 b_same_ways
theorem ok_same_ways {f : Addr} {fd : FuncData} (F : Fun K "same_ways" "same_ways" s_same_ways f fd) {f_a_falls_under : Addr} {d_falls_under : FuncData} (G_falls_under : FnOk P w K mg base CX0 2 f_a_falls_under d_falls_under ["versions", "case", "way"] (spD K 3 f_falls_under)) (g_falls_under : mg "falls_under" = some (.ref f_a_falls_under)) (k_falls_under : PySem.W.keepIn K (.ref f_a_falls_under) = true) (i_falls_under : Binds K d_falls_under ["versions", "case", "way"] []) (m_tuple : mg "tuple" = none) : FnOk P w K mg base CX0 3 f fd ["versions", "case"] (spD K 2 f_same_ways) := by
  have nd := sc_same_ways.nd
  have h := fun_ok (P := P) (w := w) (K := K) (mg := mg) (base := base) (N := ["versions", "case", "due", "way"]) (ps := ["versions", "case"]) (ms := [true, true]) (body := b_same_ways) (k := 2) F sc_same_ways rfl (fun cdv A outer s H E hr =>
  (sc (sset (by decide) nd rfl (by first | exact .inl rfl | exact .inr rfl) (ecall G_falls_under (hr.mono (by omega)) (by rfl) g_falls_under k_falls_under i_falls_under rfl (ac (pv' 0) (ac (pv' 1) (ac cs an)))))
 (s1 (sret (eTy cTuple (by rfl) m_tuple (by rfl) (ac (lc (own := [("way", 3)]) rfl nd (iw (et (ac cs (ac cs (ac cs (ac cs an)))))) (blkOk_by (by rfl)) (fun _ _ _ _ _ => (gn (by decide) nd rfl (by first | exact .inl rfl | exact .inr rfl))) (fun _ _ _ _ _ => (t1 (tcmp (oEq (u64 hr)) (ecall G_falls_under (hr.mono (by omega)) (by rfl) g_falls_under k_falls_under i_falls_under rfl (ac (pv' 0) (ac (pv' 1) (ac (pv' 3) an)))) (pv' 2)))) (fun _ _ _ _ _ => (pv' 3))) an))))))
  exact h
/-! ### _law_pick -/
abbrev s__law_pick : Stmt := topS 10
theorem sc__law_pick : FnScope ["w", "rows"] ["w", "rows"] (defScope s__law_pick) := ⟨rfl, rfl, rfl, by decide +kernel, rfl, by decide +kernel, by decide +kernel⟩
def b__law_pick : DS :=
 (dRet (dOp2 gIx (dVar 1) (dCall [true, true] f__law_next (dCons (dVar 0) (dCons (dB gLen (dCons (dVar 1) dNil)) dNil)))))
def f__law_pick : M Rs := runDef [true, true] 2 b__law_pick
theorem ok__law_pick {f : Addr} {fd : FuncData} (F : Fun K "_law_pick" "_law_pick" s__law_pick f fd) {f_a__law_next : Addr} {d__law_next : FuncData} (G__law_next : FnOk P w K mg base CX0 1 f_a__law_next d__law_next ["w", "many"] (spD K 2 f__law_next)) (g__law_next : mg "_law_next" = some (.ref f_a__law_next)) (k__law_next : PySem.W.keepIn K (.ref f_a__law_next) = true) (i__law_next : Binds K d__law_next ["w", "many"] []) (m_len : mg "len" = none) : FnOk P w K mg base CX0 2 f fd ["w", "rows"] (spD K 2 f__law_pick) := by
  have nd := sc__law_pick.nd
  have h := fun_ok (P := P) (w := w) (K := K) (mg := mg) (base := base) (N := ["w", "rows"]) (ps := ["w", "rows"]) (ms := [true, true]) (body := b__law_pick) (k := 1) F sc__law_pick rfl (fun cdv A outer s H E hr =>
  (s1 (sret (eix (u1 hr) (pv' 1) (ecall G__law_next (hr.mono (by omega)) (by rfl) g__law_next k__law_next i__law_next rfl (ac (pv' 0) (ac (eB cLen (by rfl) m_len (by rfl) (ac (pv' 1) an)) an)))))))
  exact h
/-! ### bridged -/
abbrev s_bridged : Stmt := topS 5
theorem sc_bridged : FnScope ["versions", "case", "rules", "last", "able", "place", "way"] ["versions", "case", "rules"] (defScope s_bridged) := ⟨rfl, rfl, rfl, by decide +kernel, rfl, by decide +kernel, by decide +kernel⟩
def b_bridged : DS :=
 (dSeq (dSet 3 (dCall [true, true] f_version_on (dCons (dVar 0) (dCons (dOp2 gIx (dVar 1) (dC (.str "judged"))) dNil))))
 (dSeq (dSet 4 (dOp2 gAdd (dLst (dCons (dC (.str "done")) dNil)) (dLc [5, 6] (dWk (dVar 2)) (gT 2 (gsC (gN 5) (gsC (gN 6) gsN))) (dOp2T gLe (dVar 5) (dVar 3)) (dVar 6))))
 (dRet (dCall [true, true, true] f_falls_under (dCons (dVar 0) (dCons (dVar 1) (dCons (dOp2 gIx (dVar 4) (dOp1 gNeg (dC (.int 1)))) dNil)))))))
def f_bridged : M Rs := runDef [true, true, true] 7 b_bridged
theorem ok_bridged {f : Addr} {fd : FuncData} (F : Fun K "bridged" "bridged" s_bridged f fd) {f_a_version_on : Addr} {d_version_on : FuncData} (G_version_on : FnOk P w K mg base CX0 1 f_a_version_on d_version_on ["versions", "day"] (spD K 2 f_version_on)) (g_version_on : mg "version_on" = some (.ref f_a_version_on)) (k_version_on : PySem.W.keepIn K (.ref f_a_version_on) = true) (i_version_on : Binds K d_version_on ["versions", "day"] []) {f_a_falls_under : Addr} {d_falls_under : FuncData} (G_falls_under : FnOk P w K mg base CX0 2 f_a_falls_under d_falls_under ["versions", "case", "way"] (spD K 3 f_falls_under)) (g_falls_under : mg "falls_under" = some (.ref f_a_falls_under)) (k_falls_under : PySem.W.keepIn K (.ref f_a_falls_under) = true) (i_falls_under : Binds K d_falls_under ["versions", "case", "way"] []) : FnOk P w K mg base CX0 3 f fd ["versions", "case", "rules"] (spD K 3 f_bridged) := by
  have nd := sc_bridged.nd
  have h := fun_ok (P := P) (w := w) (K := K) (mg := mg) (base := base) (N := ["versions", "case", "rules", "last", "able", "place", "way"]) (ps := ["versions", "case", "rules"]) (ms := [true, true, true]) (body := b_bridged) (k := 2) F sc_bridged rfl (fun cdv A outer s H E hr =>
  (sc (sset (by decide) nd rfl (by first | exact .inl rfl | exact .inr rfl) (ecall G_version_on (hr.mono (by omega)) (by rfl) g_version_on k_version_on i_version_on rfl (ac (pv' 0) (ac (eix (u1 hr) (pv' 1) cs) an))))
 (sc (sset (by decide) nd rfl (by first | exact .inl rfl | exact .inr rfl) (e2 oAdd (el (ac cs an)) (lc (own := [("place", 5), ("way", 6)]) rfl nd (iw (pv' 2)) (blkOk_by (by rfl)) (fun _ _ _ _ _ => (gt rfl (gsc (gn (by decide) nd rfl (by first | exact .inl rfl | exact .inr rfl)) (gsc (gn (by decide) nd rfl (by first | exact .inl rfl | exact .inr rfl)) gsn)))) (fun _ _ _ _ _ => (t1 (tcmp (oLe (u64 hr)) (pv' 5) (pv' 3)))) (fun _ _ _ _ _ => (pv' 6)))))
 (s1 (sret (ecall G_falls_under (hr.mono (by omega)) (by rfl) g_falls_under k_falls_under i_falls_under rfl (ac (pv' 0) (ac (pv' 1) (ac (eix (u1 hr) (pv' 4) (e1 oNeg ci)) an)))))))))
  exact h
/-! ### worse_off -/
abbrev s_worse_off : Stmt := topS 6
theorem sc_worse_off : FnScope ["versions", "cases", "way", "found", "k", "worth"] ["versions", "cases", "way"] (defScope s_worse_off) := ⟨rfl, rfl, rfl, by decide +kernel, rfl, by decide +kernel, by decide +kernel⟩
def b_worse_off : DS :=
 (dSeq (dSet 3 (dLst dNil))
 (dSeq (dFor (dRng1 (dCons (dB gLen (dCons (dVar 1) dNil)) dNil)) (gN 4)
 ((dSeq (dSet 5 (dOp2 gIx (dOp2 gIx (dVar 0) (dCall [true, true, true] f_falls_under (dCons (dVar 0) (dCons (dOp2 gIx (dVar 1) (dVar 4)) (dCons (dVar 2) dNil))))) (dC (.int 1))))
 (dIf (dOp2T gGt (dVar 5) (dOp2 gIx (dOp2 gIx (dVar 0) (dCall [true, true, true] f_falls_under (dCons (dVar 0) (dCons (dOp2 gIx (dVar 1) (dVar 4)) (dCons (dC (.str "mildest")) dNil))))) (dC (.int 1))))
 ((dDrop (dMut 3 isLst true gAppend (dCons (dVar 4) dNil))))
 (dPass)))))
 (dRet (dB gTuple (dCons (dVar 3) dNil)))))
def f_worse_off : M Rs := runDef [true, true, true] 6 b_worse_off
theorem ok_worse_off {f : Addr} {fd : FuncData} (F : Fun K "worse_off" "worse_off" s_worse_off f fd) {f_a_falls_under : Addr} {d_falls_under : FuncData} (G_falls_under : FnOk P w K mg base CX0 2 f_a_falls_under d_falls_under ["versions", "case", "way"] (spD K 3 f_falls_under)) (g_falls_under : mg "falls_under" = some (.ref f_a_falls_under)) (k_falls_under : PySem.W.keepIn K (.ref f_a_falls_under) = true) (i_falls_under : Binds K d_falls_under ["versions", "case", "way"] []) (m_range : mg "range" = none) (m_len : mg "len" = none) (m_tuple : mg "tuple" = none) : FnOk P w K mg base CX0 3 f fd ["versions", "cases", "way"] (spD K 3 f_worse_off) := by
  have nd := sc_worse_off.nd
  have h := fun_ok (P := P) (w := w) (K := K) (mg := mg) (base := base) (N := ["versions", "cases", "way", "found", "k", "worth"]) (ps := ["versions", "cases", "way"]) (ms := [true, true, true]) (body := b_worse_off) (k := 2) F sc_worse_off rfl (fun cdv A outer s H E hr =>
  (sc (sset (by decide) nd rfl (by first | exact .inl rfl | exact .inr rfl) (el an))
 (sc (sfor PassesOwn.never rfl (ir1 (by rfl) m_range (ac (eB cLen (by rfl) m_len (by rfl) (ac (pv' 1) an)) an)) (gn (by decide) nd rfl (by first | exact .inl rfl | exact .inr rfl))
 (sc (sset (by decide) nd rfl (by first | exact .inl rfl | exact .inr rfl) (eix (u1 hr) (eix (u1 hr) (pv' 0) (ecall G_falls_under (hr.mono (by omega)) (by rfl) g_falls_under k_falls_under i_falls_under rfl (ac (pv' 0) (ac (eix (u1 hr) (pv' 1) (pv' 4)) (ac (pv' 2) an))))) ci))
 (s1 (sif (tcmp (oGt (u64 hr)) (pv' 5) (eix (u1 hr) (eix (u1 hr) (pv' 0) (ecall G_falls_under (hr.mono (by omega)) (by rfl) g_falls_under k_falls_under i_falls_under rfl (ac (pv' 0) (ac (eix (u1 hr) (pv' 1) (pv' 4)) (ac cs an))))) ci))
 (s1 (sex (emut PySem.F.plainAttrs_list PySem.F.slot_list_append PySem.F.type_list_append mt_append ty_lst m_append (pv 3) (ac (pv' 4) an))))
 sn))))
 (s1 (sret (eTy cTuple (by rfl) m_tuple (by rfl) (ac (pv' 3) an)))))))
  exact h
/-! ### law -/
abbrev s_law : Stmt := topS 16
theorem sc_law : FnScope ["script", "w", "turn", "versions", "cases", "k", "day", "ways", "case", "way", "due", "rules", "place", "own", "worse"] ["script"] (defScope s_law) := ⟨rfl, rfl, rfl, by decide +kernel, rfl, by decide +kernel, by decide +kernel⟩
def b_law : DS :=
 (dSeq (dSet 1 (dDisp [((dC (.str "draws")), (dCall [true, true] f__law_draws (dCons (dVar 0) (dCons (dC (.int 500)) dNil)))), ((dC (.str "at")), (dC (.int 0)))]))
 (dSeq (dFor (dRng1 (dCons (dC (.int 9)) dNil)) (gN 2)
 ((dSeq (dPar [3, 4] (dCons (dCall [true] f__law_versions (dCons (dVar 1) dNil)) (dCons (dLc [5] (dRng1 (dCons (dCall [true, true] f__law_next (dCons (dVar 1) (dCons (dC (.int 5)) dNil))) dNil)) (gN 5) dYes (dCall [true] f__law_case (dCons (dVar 1) dNil))) dNil)))
 (dSeq (dSet 6 (dOp2 gSub (dCall [true, true] f__law_next (dCons (dVar 1) (dCons (dC (.int 30)) dNil))) (dC (.int 2))))
 (dSeq (dIf (dNot (dTru (dCall [true, true] (f__law_alike 6) (dCons (dCall [true, true] f_version_on (dCons (dVar 3) (dCons (dVar 6) dNil))) (dCons (dCall [true, true] f__law_on (dCons (dVar 3) (dCons (dVar 6) dNil))) dNil)))))
 ((dRet (dC (.bool false))))
 (dPass))
 (dSeq (dSet 7 (dLst (dCons (dC (.str "begun")) (dCons (dC (.str "done")) (dCons (dC (.str "judged")) (dCons (dC (.str "mildest")) dNil))))))
 (dSeq (dFor (dWk (dVar 4)) (gN 8)
 ((dSeq (dIf (dOp2T gNe (dLc [9] (dWk (dVar 7)) (gN 9) (dNot (dTru (dCall [true, true] (f__law_alike 6) (dCons (dCall [true, true, true] f_falls_under (dCons (dVar 3) (dCons (dVar 8) (dCons (dVar 9) dNil)))) (dCons (dCall [true, true, true] f__law_falls (dCons (dVar 3) (dCons (dVar 8) (dCons (dVar 9) dNil)))) dNil))))) (dVar 9)) (dLst dNil))
 ((dRet (dC (.bool false))))
 (dPass))
 (dSeq (dSet 10 (dB gTuple (dCons (dLc [9] (dWk (dVar 7)) (gN 9) (dOp2T gEq (dCall [true, true, true] f__law_falls (dCons (dVar 3) (dCons (dVar 8) (dCons (dVar 9) dNil)))) (dCall [true, true, true] f__law_falls (dCons (dVar 3) (dCons (dVar 8) (dCons (dC (.str "done")) dNil))))) (dVar 9)) dNil)))
 (dSeq (dIf (dNot (dTru (dCall [true, true] (f__law_alike 6) (dCons (dCall [true, true] f_same_ways (dCons (dVar 3) (dCons (dVar 8) dNil))) (dCons (dVar 10) dNil)))))
 ((dRet (dC (.bool false))))
 (dPass))
 (dSeq (dSet 11 (dB gTuple (dCons (dLc [5] (dRng1 (dCons (dCall [true, true] f__law_next (dCons (dVar 1) (dCons (dC (.int 4)) dNil))) dNil)) (gN 5) dYes (dTup (dCons (dCall [true, true] f__law_next (dCons (dVar 1) (dCons (dB gLen (dCons (dVar 3) dNil)) dNil))) (dCons (dCall [true, true] f__law_pick (dCons (dVar 1) (dCons (dVar 7) dNil))) dNil)))) dNil)))
 (dSeq (dSet 9 (dC (.str "done")))
 (dSeq (dFor (dWk (dVar 11)) (gT 2 (gsC (gN 12) (gsC (gN 13) gsN)))
 ((dSet 9 (dIfE (dOp2T gLe (dVar 12) (dCall [true, true] f__law_on (dCons (dVar 3) (dCons (dOp2 gIx (dVar 8) (dC (.str "judged"))) dNil)))) (dVar 13) (dVar 9)))))
 (dIf (dNot (dTru (dCall [true, true] (f__law_alike 6) (dCons (dCall [true, true, true] f_bridged (dCons (dVar 3) (dCons (dVar 8) (dCons (dVar 11) dNil)))) (dCons (dCall [true, true, true] f__law_falls (dCons (dVar 3) (dCons (dVar 8) (dCons (dVar 9) dNil)))) dNil)))))
 ((dRet (dC (.bool false))))
 (dPass))))))))))
 (dFor (dWk (dVar 7)) (gN 9)
 ((dSeq (dSet 14 (dLc [5] (dRng1 (dCons (dB gLen (dCons (dVar 4) dNil)) dNil)) (gN 5) (dOp2T gGt (dOp2 gIx (dOp2 gIx (dVar 3) (dCall [true, true, true] f__law_falls (dCons (dVar 3) (dCons (dOp2 gIx (dVar 4) (dVar 5)) (dCons (dVar 9) dNil))))) (dC (.int 1))) (dOp2 gIx (dOp2 gIx (dVar 3) (dCall [true, true, true] f__law_falls (dCons (dVar 3) (dCons (dOp2 gIx (dVar 4) (dVar 5)) (dCons (dC (.str "mildest")) dNil))))) (dC (.int 1)))) (dVar 5)))
 (dIf (dNot (dTru (dCall [true, true] (f__law_alike 6) (dCons (dCall [true, true, true] f_worse_off (dCons (dVar 3) (dCons (dB gTuple (dCons (dVar 4) dNil)) (dCons (dVar 9) dNil)))) (dCons (dB gTuple (dCons (dVar 14) dNil)) dNil)))))
 ((dRet (dC (.bool false))))
 (dPass))))))))))))
 (dRet (dC (.bool true)))))
def f_law : M Rs := runDef [true] 15 b_law
theorem ok_law {f : Addr} {fd : FuncData} (F : Fun K "law" "law" s_law f fd) {f_a__law_draws : Addr} {d__law_draws : FuncData} (G__law_draws : FnOk P w K mg base CX0 1 f_a__law_draws d__law_draws ["script", "many"] (spD K 2 f__law_draws)) (g__law_draws : mg "_law_draws" = some (.ref f_a__law_draws)) (k__law_draws : PySem.W.keepIn K (.ref f_a__law_draws) = true) (i__law_draws : Binds K d__law_draws ["script", "many"] []) {f_a__law_next : Addr} {d__law_next : FuncData} (G__law_next : FnOk P w K mg base CX0 1 f_a__law_next d__law_next ["w", "many"] (spD K 2 f__law_next)) (g__law_next : mg "_law_next" = some (.ref f_a__law_next)) (k__law_next : PySem.W.keepIn K (.ref f_a__law_next) = true) (i__law_next : Binds K d__law_next ["w", "many"] []) {f_a__law_case : Addr} {d__law_case : FuncData} (G__law_case : FnOk P w K mg base CX0 2 f_a__law_case d__law_case ["w"] (spD K 1 f__law_case)) (g__law_case : mg "_law_case" = some (.ref f_a__law_case)) (k__law_case : PySem.W.keepIn K (.ref f_a__law_case) = true) (i__law_case : Binds K d__law_case ["w"] []) {f_a__law_versions : Addr} {d__law_versions : FuncData} (G__law_versions : FnOk P w K mg base CX0 2 f_a__law_versions d__law_versions ["w"] (spD K 1 f__law_versions)) (g__law_versions : mg "_law_versions" = some (.ref f_a__law_versions)) (k__law_versions : PySem.W.keepIn K (.ref f_a__law_versions) = true) (i__law_versions : Binds K d__law_versions ["w"] []) {f_a__law_alike : Addr} {d__law_alike : FuncData} (G__law_alike : FnOk P w K mg base CX0 6 f_a__law_alike d__law_alike ["given", "due"] (spD K 2 (f__law_alike 6))) (g__law_alike : mg "_law_alike" = some (.ref f_a__law_alike)) (k__law_alike : PySem.W.keepIn K (.ref f_a__law_alike) = true) (i__law_alike : Binds K d__law_alike ["given", "due"] []) {f_a__law_on : Addr} {d__law_on : FuncData} (G__law_on : FnOk P w K mg base CX0 1 f_a__law_on d__law_on ["versions", "day"] (spD K 2 f__law_on)) (g__law_on : mg "_law_on" = some (.ref f_a__law_on)) (k__law_on : PySem.W.keepIn K (.ref f_a__law_on) = true) (i__law_on : Binds K d__law_on ["versions", "day"] []) {f_a_version_on : Addr} {d_version_on : FuncData} (G_version_on : FnOk P w K mg base CX0 1 f_a_version_on d_version_on ["versions", "day"] (spD K 2 f_version_on)) (g_version_on : mg "version_on" = some (.ref f_a_version_on)) (k_version_on : PySem.W.keepIn K (.ref f_a_version_on) = true) (i_version_on : Binds K d_version_on ["versions", "day"] []) {f_a__law_falls : Addr} {d__law_falls : FuncData} (G__law_falls : FnOk P w K mg base CX0 2 f_a__law_falls d__law_falls ["versions", "case", "way"] (spD K 3 f__law_falls)) (g__law_falls : mg "_law_falls" = some (.ref f_a__law_falls)) (k__law_falls : PySem.W.keepIn K (.ref f_a__law_falls) = true) (i__law_falls : Binds K d__law_falls ["versions", "case", "way"] []) {f_a_falls_under : Addr} {d_falls_under : FuncData} (G_falls_under : FnOk P w K mg base CX0 2 f_a_falls_under d_falls_under ["versions", "case", "way"] (spD K 3 f_falls_under)) (g_falls_under : mg "falls_under" = some (.ref f_a_falls_under)) (k_falls_under : PySem.W.keepIn K (.ref f_a_falls_under) = true) (i_falls_under : Binds K d_falls_under ["versions", "case", "way"] []) {f_a_same_ways : Addr} {d_same_ways : FuncData} (G_same_ways : FnOk P w K mg base CX0 3 f_a_same_ways d_same_ways ["versions", "case"] (spD K 2 f_same_ways)) (g_same_ways : mg "same_ways" = some (.ref f_a_same_ways)) (k_same_ways : PySem.W.keepIn K (.ref f_a_same_ways) = true) (i_same_ways : Binds K d_same_ways ["versions", "case"] []) {f_a__law_pick : Addr} {d__law_pick : FuncData} (G__law_pick : FnOk P w K mg base CX0 2 f_a__law_pick d__law_pick ["w", "rows"] (spD K 2 f__law_pick)) (g__law_pick : mg "_law_pick" = some (.ref f_a__law_pick)) (k__law_pick : PySem.W.keepIn K (.ref f_a__law_pick) = true) (i__law_pick : Binds K d__law_pick ["w", "rows"] []) {f_a_bridged : Addr} {d_bridged : FuncData} (G_bridged : FnOk P w K mg base CX0 3 f_a_bridged d_bridged ["versions", "case", "rules"] (spD K 3 f_bridged)) (g_bridged : mg "bridged" = some (.ref f_a_bridged)) (k_bridged : PySem.W.keepIn K (.ref f_a_bridged) = true) (i_bridged : Binds K d_bridged ["versions", "case", "rules"] []) {f_a_worse_off : Addr} {d_worse_off : FuncData} (G_worse_off : FnOk P w K mg base CX0 3 f_a_worse_off d_worse_off ["versions", "cases", "way"] (spD K 3 f_worse_off)) (g_worse_off : mg "worse_off" = some (.ref f_a_worse_off)) (k_worse_off : PySem.W.keepIn K (.ref f_a_worse_off) = true) (i_worse_off : Binds K d_worse_off ["versions", "cases", "way"] []) (m_range : mg "range" = none) (m_tuple : mg "tuple" = none) (m_len : mg "len" = none) : FnOk P w K mg base CX0 7 f fd ["script"] (spD K 1 f_law) := by
  have nd := sc_law.nd
  have h := fun_ok (P := P) (w := w) (K := K) (mg := mg) (base := base) (N := ["script", "w", "turn", "versions", "cases", "k", "day", "ways", "case", "way", "due", "rules", "place", "own", "worse"]) (ps := ["script"]) (ms := [true]) (body := b_law) (k := 6) F sc_law rfl (fun cdv A outer s H E hr =>
  (sc (sset (by decide) nd rfl (by first | exact .inl rfl | exact .inr rfl) (edi (pps_cons cs (ecall G__law_draws (hr.mono (by omega)) (by rfl) g__law_draws k__law_draws i__law_draws rfl (ac (pv' 0) (ac ci an))) (pps_cons cs ci pps_nil))))
 (sc (sfor PassesOwn.never rfl (ir1 (by rfl) m_range (ac ci an)) (gn (by decide) nd rfl (by first | exact .inl rfl | exact .inr rfl))
 (sc (sparU (by decide) (by decide) rfl nd rfl rfl (by first | exact .inl rfl | exact .inr rfl) (by first | exact .inl rfl | exact .inr rfl) (ac (ecall G__law_versions (hr.mono (by omega)) (by rfl) g__law_versions k__law_versions i__law_versions rfl (ac (pv' 1) an)) (ac (lc (own := [("k", 5)]) rfl nd (ir1 (by rfl) m_range (ac (ecall G__law_next (hr.mono (by omega)) (by rfl) g__law_next k__law_next i__law_next rfl (ac (pv' 1) (ac ci an))) an)) (blkOk_by (by rfl)) (fun _ _ _ _ _ => (gn (by decide) nd rfl (by first | exact .inl rfl | exact .inr rfl))) (fun _ _ _ _ _ => tn) (fun _ _ _ _ _ => (ecall G__law_case (hr.mono (by omega)) (by rfl) g__law_case k__law_case i__law_case rfl (ac (pv' 1) an)))) an)))
 (sc (sset (by decide) nd rfl (by first | exact .inl rfl | exact .inr rfl) (e2 oSub (ecall G__law_next (hr.mono (by omega)) (by rfl) g__law_next k__law_next i__law_next rfl (ac (pv' 1) (ac ci an))) ci))
 (sc (sif (tnot (ttr (ecall G__law_alike (hr.mono (by omega)) (by rfl) g__law_alike k__law_alike i__law_alike rfl (ac (ecall G_version_on (hr.mono (by omega)) (by rfl) g_version_on k_version_on i_version_on rfl (ac (pv' 3) (ac (pv' 6) an))) (ac (ecall G__law_on (hr.mono (by omega)) (by rfl) g__law_on k__law_on i__law_on rfl (ac (pv' 3) (ac (pv' 6) an))) an)))))
 (s1 (sret cb))
 sn)
 (sc (sset (by decide) nd rfl (by first | exact .inl rfl | exact .inr rfl) (el (ac cs (ac cs (ac cs (ac cs an))))))
 (sc (sfor PassesOwn.never rfl (iw (pv' 4)) (gn (by decide) nd rfl (by first | exact .inl rfl | exact .inr rfl))
 (sc (sif (tcmp (oNe (u64 hr)) (lc (own := [("way", 9)]) rfl nd (iw (pv' 7)) (blkOk_by (by rfl)) (fun _ _ _ _ _ => (gn (by decide) nd rfl (by first | exact .inl rfl | exact .inr rfl))) (fun _ _ _ _ _ => (t1 (tnot (ttr (ecall G__law_alike (hr.mono (by omega)) (by rfl) g__law_alike k__law_alike i__law_alike rfl (ac (ecall G_falls_under (hr.mono (by omega)) (by rfl) g_falls_under k_falls_under i_falls_under rfl (ac (pv' 3) (ac (pv' 8) (ac (pv' 9) an)))) (ac (ecall G__law_falls (hr.mono (by omega)) (by rfl) g__law_falls k__law_falls i__law_falls rfl (ac (pv' 3) (ac (pv' 8) (ac (pv' 9) an)))) an))))))) (fun _ _ _ _ _ => (pv' 9))) (el an))
 (s1 (sret cb))
 sn)
 (sc (sset (by decide) nd rfl (by first | exact .inl rfl | exact .inr rfl) (eTy cTuple (by rfl) m_tuple (by rfl) (ac (lc (own := [("way", 9)]) rfl nd (iw (pv' 7)) (blkOk_by (by rfl)) (fun _ _ _ _ _ => (gn (by decide) nd rfl (by first | exact .inl rfl | exact .inr rfl))) (fun _ _ _ _ _ => (t1 (tcmp (oEq (u64 hr)) (ecall G__law_falls (hr.mono (by omega)) (by rfl) g__law_falls k__law_falls i__law_falls rfl (ac (pv' 3) (ac (pv' 8) (ac (pv' 9) an)))) (ecall G__law_falls (hr.mono (by omega)) (by rfl) g__law_falls k__law_falls i__law_falls rfl (ac (pv' 3) (ac (pv' 8) (ac cs an))))))) (fun _ _ _ _ _ => (pv' 9))) an)))
 (sc (sif (tnot (ttr (ecall G__law_alike (hr.mono (by omega)) (by rfl) g__law_alike k__law_alike i__law_alike rfl (ac (ecall G_same_ways (hr.mono (by omega)) (by rfl) g_same_ways k_same_ways i_same_ways rfl (ac (pv' 3) (ac (pv' 8) an))) (ac (pv' 10) an)))))
 (s1 (sret cb))
 sn)
 (sc (sset (by decide) nd rfl (by first | exact .inl rfl | exact .inr rfl) (eTy cTuple (by rfl) m_tuple (by rfl) (ac (lc (own := [("k", 5)]) rfl nd (ir1 (by rfl) m_range (ac (ecall G__law_next (hr.mono (by omega)) (by rfl) g__law_next k__law_next i__law_next rfl (ac (pv' 1) (ac ci an))) an)) (blkOk_by (by rfl)) (fun _ _ _ _ _ => (gn (by decide) nd rfl (by first | exact .inl rfl | exact .inr rfl))) (fun _ _ _ _ _ => tn) (fun _ _ _ _ _ => (et (ac (ecall G__law_next (hr.mono (by omega)) (by rfl) g__law_next k__law_next i__law_next rfl (ac (pv' 1) (ac (eB cLen (by rfl) m_len (by rfl) (ac (pv' 3) an)) an))) (ac (ecall G__law_pick (hr.mono (by omega)) (by rfl) g__law_pick k__law_pick i__law_pick rfl (ac (pv' 1) (ac (pv' 7) an))) an))))) an)))
 (sc (sset (by decide) nd rfl (by first | exact .inl rfl | exact .inr rfl) cs)
 (sc (sfor PassesOwn.never rfl (iw (pv' 11)) (gt rfl (gsc (gn (by decide) nd rfl (by first | exact .inl rfl | exact .inr rfl)) (gsc (gn (by decide) nd rfl (by first | exact .inl rfl | exact .inr rfl)) gsn)))
 (s1 (sset (by decide) nd rfl (by first | exact .inl rfl | exact .inr rfl) (eife (tcmp (oLe (u64 hr)) (pv' 12) (ecall G__law_on (hr.mono (by omega)) (by rfl) g__law_on k__law_on i__law_on rfl (ac (pv' 3) (ac (eix (u1 hr) (pv' 8) cs) an)))) (pv' 13) (pv' 9)))))
 (s1 (sif (tnot (ttr (ecall G__law_alike (hr.mono (by omega)) (by rfl) g__law_alike k__law_alike i__law_alike rfl (ac (ecall G_bridged (hr.mono (by omega)) (by rfl) g_bridged k_bridged i_bridged rfl (ac (pv' 3) (ac (pv' 8) (ac (pv' 11) an)))) (ac (ecall G__law_falls (hr.mono (by omega)) (by rfl) g__law_falls k__law_falls i__law_falls rfl (ac (pv' 3) (ac (pv' 8) (ac (pv' 9) an)))) an)))))
 (s1 (sret cb))
 sn)))))))))
 (s1 (sfor PassesOwn.never rfl (iw (pv' 7)) (gn (by decide) nd rfl (by first | exact .inl rfl | exact .inr rfl))
 (sc (slc (own := [("k", 5)]) (by decide) rfl nd rfl rfl (sw_true rfl rfl rfl rfl) (ir1 (by rfl) m_range (ac (eB cLen (by rfl) m_len (by rfl) (ac (pv' 4) an)) an)) (blkOk_by (by rfl)) (fun _ _ _ _ _ => (gn (by decide) nd rfl (by first | exact .inl rfl | exact .inr rfl))) (fun _ _ _ _ _ => (t1 (tcmp (oGt (u64 hr)) (eix (u1 hr) (eix (u1 hr) (pv' 3) (ecall G__law_falls (hr.mono (by omega)) (by rfl) g__law_falls k__law_falls i__law_falls rfl (ac (pv' 3) (ac (eix (u1 hr) (pv' 4) (pv' 5)) (ac (pv' 9) an))))) ci) (eix (u1 hr) (eix (u1 hr) (pv' 3) (ecall G__law_falls (hr.mono (by omega)) (by rfl) g__law_falls k__law_falls i__law_falls rfl (ac (pv' 3) (ac (eix (u1 hr) (pv' 4) (pv' 5)) (ac cs an))))) ci)))) (fun _ _ _ _ _ => (pv' 5)))
 (s1 (sif (tnot (ttr (ecall G__law_alike (hr.mono (by omega)) (by rfl) g__law_alike k__law_alike i__law_alike rfl (ac (ecall G_worse_off (hr.mono (by omega)) (by rfl) g_worse_off k_worse_off i_worse_off rfl (ac (pv' 3) (ac (eTy cTuple (by rfl) m_tuple (by rfl) (ac (pv' 4) an)) (ac (pv' 9) an)))) (ac (eTy cTuple (by rfl) m_tuple (by rfl) (ac (pv' 14) an)) an)))))
 (s1 (sret cb))
 sn)))))))))))
 (s1 (sret cb)))))
  exact h
end
theorem all_mk {l : PySem.W.OpenLaw} {w : World} {K : PySem.W.Frag} {h : Heap} {mg : Str → Option Value} (X : K.In h) (G : h.Ns mainGlobals mg) {fa f1 f2 f3 f4 f5 f6 f7 f8 f9 f10 f11 f12 f13 f14 f15 : Addr} {od1 an1 od2 an2 od3 an3 od4 an4 od5 an5 od6 an6 od7 an7 od8 an8 od9 an9 od10 an10 od11 an11 od12 an12 od13 an13 od14 an14 od15 an15 : Option Addr} {sl1 sl2 sl3 sl4 sl5 sl6 sl7 sl8 sl9 sl10 sl11 sl12 sl13 sl14 sl15 : Array (Option Value)} {oc1 kV1 dc1 pm1 cd1 ct1 oc2 kV2 dc2 pm2 cd2 ct2 oc3 kV3 dc3 pm3 cd3 ct3 oc4 kV4 dc4 pm4 cd4 ct4 oc5 kV5 dc5 pm5 cd5 ct5 oc6 kV6 dc6 pm6 cd6 ct6 oc7 kV7 dc7 pm7 cd7 ct7 oc8 kV8 dc8 pm8 cd8 ct8 oc9 kV9 dc9 pm9 cd9 ct9 oc10 kV10 dc10 pm10 cd10 ct10 oc11 kV11 dc11 pm11 cd11 ct11 oc12 kV12 dc12 pm12 cd12 ct12 oc13 kV13 dc13 pm13 cd13 ct13 oc14 kV14 dc14 pm14 cd14 ct14 oc15 kV15 dc15 pm15 cd15 ct15 : Value} (hfa : mg "law" = some (.ref fa))
  (a1 : PySem.W.nsIn K mainGlobals "_law_draws" = some (some (.ref f1))) (l1 : K.lookup f1 = some ⟨oc1, od1, .func (PySem.W.fnOf "_law_draws" "_law_draws" (defArgs s__law_draws) (defBody s__law_draws) (defScope s__law_draws) .none kV1 dc1 pm1 an1 cd1 ct1), sl1⟩) (c1 : PySem.W.codeIn K cd1 "_law_draws" = true) (k1 : PySem.W.keepIn K (.ref f1) = true)
  (a2 : PySem.W.nsIn K mainGlobals "_law_next" = some (some (.ref f2))) (l2 : K.lookup f2 = some ⟨oc2, od2, .func (PySem.W.fnOf "_law_next" "_law_next" (defArgs s__law_next) (defBody s__law_next) (defScope s__law_next) .none kV2 dc2 pm2 an2 cd2 ct2), sl2⟩) (c2 : PySem.W.codeIn K cd2 "_law_next" = true) (k2 : PySem.W.keepIn K (.ref f2) = true)
  (a3 : PySem.W.nsIn K mainGlobals "_law_case" = some (some (.ref f3))) (l3 : K.lookup f3 = some ⟨oc3, od3, .func (PySem.W.fnOf "_law_case" "_law_case" (defArgs s__law_case) (defBody s__law_case) (defScope s__law_case) .none kV3 dc3 pm3 an3 cd3 ct3), sl3⟩) (c3 : PySem.W.codeIn K cd3 "_law_case" = true) (k3 : PySem.W.keepIn K (.ref f3) = true)
  (a4 : PySem.W.nsIn K mainGlobals "_law_versions" = some (some (.ref f4))) (l4 : K.lookup f4 = some ⟨oc4, od4, .func (PySem.W.fnOf "_law_versions" "_law_versions" (defArgs s__law_versions) (defBody s__law_versions) (defScope s__law_versions) .none kV4 dc4 pm4 an4 cd4 ct4), sl4⟩) (c4 : PySem.W.codeIn K cd4 "_law_versions" = true) (k4 : PySem.W.keepIn K (.ref f4) = true)
  (a5 : PySem.W.nsIn K mainGlobals "_law_alike" = some (some (.ref f5))) (l5 : K.lookup f5 = some ⟨oc5, od5, .func (PySem.W.fnOf "_law_alike" "_law_alike" (defArgs s__law_alike) (defBody s__law_alike) (defScope s__law_alike) .none kV5 dc5 pm5 an5 cd5 ct5), sl5⟩) (c5 : PySem.W.codeIn K cd5 "_law_alike" = true) (k5 : PySem.W.keepIn K (.ref f5) = true)
  (a6 : PySem.W.nsIn K mainGlobals "_law_on" = some (some (.ref f6))) (l6 : K.lookup f6 = some ⟨oc6, od6, .func (PySem.W.fnOf "_law_on" "_law_on" (defArgs s__law_on) (defBody s__law_on) (defScope s__law_on) .none kV6 dc6 pm6 an6 cd6 ct6), sl6⟩) (c6 : PySem.W.codeIn K cd6 "_law_on" = true) (k6 : PySem.W.keepIn K (.ref f6) = true)
  (a7 : PySem.W.nsIn K mainGlobals "version_on" = some (some (.ref f7))) (l7 : K.lookup f7 = some ⟨oc7, od7, .func (PySem.W.fnOf "version_on" "version_on" (defArgs s_version_on) (defBody s_version_on) (defScope s_version_on) .none kV7 dc7 pm7 an7 cd7 ct7), sl7⟩) (c7 : PySem.W.codeIn K cd7 "version_on" = true) (k7 : PySem.W.keepIn K (.ref f7) = true)
  (a8 : PySem.W.nsIn K mainGlobals "_law_falls" = some (some (.ref f8))) (l8 : K.lookup f8 = some ⟨oc8, od8, .func (PySem.W.fnOf "_law_falls" "_law_falls" (defArgs s__law_falls) (defBody s__law_falls) (defScope s__law_falls) .none kV8 dc8 pm8 an8 cd8 ct8), sl8⟩) (c8 : PySem.W.codeIn K cd8 "_law_falls" = true) (k8 : PySem.W.keepIn K (.ref f8) = true)
  (a9 : PySem.W.nsIn K mainGlobals "mildest" = some (some (.ref f9))) (l9 : K.lookup f9 = some ⟨oc9, od9, .func (PySem.W.fnOf "mildest" "mildest" (defArgs s_mildest) (defBody s_mildest) (defScope s_mildest) .none kV9 dc9 pm9 an9 cd9 ct9), sl9⟩) (c9 : PySem.W.codeIn K cd9 "mildest" = true) (k9 : PySem.W.keepIn K (.ref f9) = true)
  (a10 : PySem.W.nsIn K mainGlobals "falls_under" = some (some (.ref f10))) (l10 : K.lookup f10 = some ⟨oc10, od10, .func (PySem.W.fnOf "falls_under" "falls_under" (defArgs s_falls_under) (defBody s_falls_under) (defScope s_falls_under) .none kV10 dc10 pm10 an10 cd10 ct10), sl10⟩) (c10 : PySem.W.codeIn K cd10 "falls_under" = true) (k10 : PySem.W.keepIn K (.ref f10) = true)
  (a11 : PySem.W.nsIn K mainGlobals "same_ways" = some (some (.ref f11))) (l11 : K.lookup f11 = some ⟨oc11, od11, .func (PySem.W.fnOf "same_ways" "same_ways" (defArgs s_same_ways) (defBody s_same_ways) (defScope s_same_ways) .none kV11 dc11 pm11 an11 cd11 ct11), sl11⟩) (c11 : PySem.W.codeIn K cd11 "same_ways" = true) (k11 : PySem.W.keepIn K (.ref f11) = true)
  (a12 : PySem.W.nsIn K mainGlobals "_law_pick" = some (some (.ref f12))) (l12 : K.lookup f12 = some ⟨oc12, od12, .func (PySem.W.fnOf "_law_pick" "_law_pick" (defArgs s__law_pick) (defBody s__law_pick) (defScope s__law_pick) .none kV12 dc12 pm12 an12 cd12 ct12), sl12⟩) (c12 : PySem.W.codeIn K cd12 "_law_pick" = true) (k12 : PySem.W.keepIn K (.ref f12) = true)
  (a13 : PySem.W.nsIn K mainGlobals "bridged" = some (some (.ref f13))) (l13 : K.lookup f13 = some ⟨oc13, od13, .func (PySem.W.fnOf "bridged" "bridged" (defArgs s_bridged) (defBody s_bridged) (defScope s_bridged) .none kV13 dc13 pm13 an13 cd13 ct13), sl13⟩) (c13 : PySem.W.codeIn K cd13 "bridged" = true) (k13 : PySem.W.keepIn K (.ref f13) = true)
  (a14 : PySem.W.nsIn K mainGlobals "worse_off" = some (some (.ref f14))) (l14 : K.lookup f14 = some ⟨oc14, od14, .func (PySem.W.fnOf "worse_off" "worse_off" (defArgs s_worse_off) (defBody s_worse_off) (defScope s_worse_off) .none kV14 dc14 pm14 an14 cd14 ct14), sl14⟩) (c14 : PySem.W.codeIn K cd14 "worse_off" = true) (k14 : PySem.W.keepIn K (.ref f14) = true)
  (a15 : PySem.W.nsIn K mainGlobals "law" = some (some (.ref f15))) (l15 : K.lookup f15 = some ⟨oc15, od15, .func (PySem.W.fnOf "law" "law" (defArgs s_law) (defBody s_law) (defScope s_law) .none kV15 dc15 pm15 an15 cd15 ct15), sl15⟩) (c15 : PySem.W.codeIn K cd15 "law" = true) (k15 : PySem.W.keepIn K (.ref f15) = true)
  (z1 : PySem.W.nsIn K mainGlobals "range" = some none)
  (z2 : PySem.W.nsIn K mainGlobals "len" = some none)
  (z3 : PySem.W.nsIn K mainGlobals "abs" = some none)
  (z4 : PySem.W.nsIn K mainGlobals "int" = some none)
  (z5 : PySem.W.nsIn K mainGlobals "tuple" = some none)
  (z6 : PySem.W.nsIn K mainGlobals "isinstance" = some none)
  (z7 : PySem.W.nsIn K mainGlobals "bool" = some none)
  (z8 : PySem.W.nsIn K mainGlobals "str" = some none)
  (z9 : PySem.W.nsIn K mainGlobals "list" = some none)
  (z10 : PySem.W.nsIn K mainGlobals "min" = some none) :
  ∃ fd : FuncData, (∀ (s : Shared) (v : Value), BindsTo s fd ⟨[v], []⟩ [("script", v)]) ∧ ∀ base : Heap, K.In base → base.Ns mainGlobals mg → FnOk l.prog w K mg base CX0 7 fa fd ["script"] (spD K 1 f_law) := by
  have e := hfa.symm.trans (PySem.W.mg_of X G a15)
  cases e
  have F1 := fun_mk (st := s__law_draws) l1 c1 k1
  have b1 := F1.binds (ps := ["script", "many"]) fun _ _ _ _ _ _ us hl => match us, hl with | [_, _], _ => rfl
  have g1 := PySem.W.mg_of X G a1
  have F2 := fun_mk (st := s__law_next) l2 c2 k2
  have b2 := F2.binds (ps := ["w", "many"]) fun _ _ _ _ _ _ us hl => match us, hl with | [_, _], _ => rfl
  have g2 := PySem.W.mg_of X G a2
  have F3 := fun_mk (st := s__law_case) l3 c3 k3
  have b3 := F3.binds (ps := ["w"]) fun _ _ _ _ _ _ us hl => match us, hl with | [_], _ => rfl
  have g3 := PySem.W.mg_of X G a3
  have F4 := fun_mk (st := s__law_versions) l4 c4 k4
  have b4 := F4.binds (ps := ["w"]) fun _ _ _ _ _ _ us hl => match us, hl with | [_], _ => rfl
  have g4 := PySem.W.mg_of X G a4
  have F5 := fun_mk (st := s__law_alike) l5 c5 k5
  have b5 := F5.binds (ps := ["given", "due"]) fun _ _ _ _ _ _ us hl => match us, hl with | [_, _], _ => rfl
  have g5 := PySem.W.mg_of X G a5
  have F6 := fun_mk (st := s__law_on) l6 c6 k6
  have b6 := F6.binds (ps := ["versions", "day"]) fun _ _ _ _ _ _ us hl => match us, hl with | [_, _], _ => rfl
  have g6 := PySem.W.mg_of X G a6
  have F7 := fun_mk (st := s_version_on) l7 c7 k7
  have b7 := F7.binds (ps := ["versions", "day"]) fun _ _ _ _ _ _ us hl => match us, hl with | [_, _], _ => rfl
  have g7 := PySem.W.mg_of X G a7
  have F8 := fun_mk (st := s__law_falls) l8 c8 k8
  have b8 := F8.binds (ps := ["versions", "case", "way"]) fun _ _ _ _ _ _ us hl => match us, hl with | [_, _, _], _ => rfl
  have g8 := PySem.W.mg_of X G a8
  have F9 := fun_mk (st := s_mildest) l9 c9 k9
  have b9 := F9.binds (ps := ["versions", "first", "last"]) fun _ _ _ _ _ _ us hl => match us, hl with | [_, _, _], _ => rfl
  have g9 := PySem.W.mg_of X G a9
  have F10 := fun_mk (st := s_falls_under) l10 c10 k10
  have b10 := F10.binds (ps := ["versions", "case", "way"]) fun _ _ _ _ _ _ us hl => match us, hl with | [_, _, _], _ => rfl
  have g10 := PySem.W.mg_of X G a10
  have F11 := fun_mk (st := s_same_ways) l11 c11 k11
  have b11 := F11.binds (ps := ["versions", "case"]) fun _ _ _ _ _ _ us hl => match us, hl with | [_, _], _ => rfl
  have g11 := PySem.W.mg_of X G a11
  have F12 := fun_mk (st := s__law_pick) l12 c12 k12
  have b12 := F12.binds (ps := ["w", "rows"]) fun _ _ _ _ _ _ us hl => match us, hl with | [_, _], _ => rfl
  have g12 := PySem.W.mg_of X G a12
  have F13 := fun_mk (st := s_bridged) l13 c13 k13
  have b13 := F13.binds (ps := ["versions", "case", "rules"]) fun _ _ _ _ _ _ us hl => match us, hl with | [_, _, _], _ => rfl
  have g13 := PySem.W.mg_of X G a13
  have F14 := fun_mk (st := s_worse_off) l14 c14 k14
  have b14 := F14.binds (ps := ["versions", "cases", "way"]) fun _ _ _ _ _ _ us hl => match us, hl with | [_, _, _], _ => rfl
  have g14 := PySem.W.mg_of X G a14
  have F15 := fun_mk (st := s_law) l15 c15 k15
  have b15 := F15.binds (ps := ["script"]) fun _ _ _ _ _ _ us hl => match us, hl with | [_], _ => rfl
  have g15 := PySem.W.mg_of X G a15
  have y1 := PySem.W.mg_none_of X G z1
  have y2 := PySem.W.mg_none_of X G z2
  have y3 := PySem.W.mg_none_of X G z3
  have y4 := PySem.W.mg_none_of X G z4
  have y5 := PySem.W.mg_none_of X G z5
  have y6 := PySem.W.mg_none_of X G z6
  have y7 := PySem.W.mg_none_of X G z7
  have y8 := PySem.W.mg_none_of X G z8
  have y9 := PySem.W.mg_none_of X G z9
  have y10 := PySem.W.mg_none_of X G z10
  refine ⟨PySem.W.fnOf "law" "law" (defArgs s_law) (defBody s_law) (defScope s_law) .none kV15 dc15 pm15 an15 cd15 ct15, fun s v => .of_eq rfl, fun base _ _ => ?_⟩
  have G1 := ok__law_draws (P := l.prog) (w := w) (mg := mg) (base := base) F1 y1 y2 y3 y4
  have G2 := ok__law_next (P := l.prog) (w := w) (mg := mg) (base := base) F2 y2 y4
  have G3 := ok__law_case (P := l.prog) (w := w) (mg := mg) (base := base) F3 G2 g2 F2.kp b2
  have G4 := ok__law_versions (P := l.prog) (w := w) (mg := mg) (base := base) F4 G2 g2 F2.kp b2 y1 y5
  have G5 := ok__law_alike (P := l.prog) (w := w) (mg := mg) (base := base) F5 g5 b5 y6 y5 y2 y1 y7 y4 y8 6
  have G6 := ok__law_on (P := l.prog) (w := w) (mg := mg) (base := base) F6 y2 y1
  have G7 := ok_version_on (P := l.prog) (w := w) (mg := mg) (base := base) F7 y1 y2
  have G8 := ok__law_falls (P := l.prog) (w := w) (mg := mg) (base := base) F8 G6 g6 F6.kp b6 y9 y1 y10
  have G9 := ok_mildest (P := l.prog) (w := w) (mg := mg) (base := base) F9 y10 y1
  have G10 := ok_falls_under (P := l.prog) (w := w) (mg := mg) (base := base) F10 G9 g9 F9.kp b9 G7 g7 F7.kp b7
  have G11 := ok_same_ways (P := l.prog) (w := w) (mg := mg) (base := base) F11 G10 g10 F10.kp b10 y5
  have G12 := ok__law_pick (P := l.prog) (w := w) (mg := mg) (base := base) F12 G2 g2 F2.kp b2 y2
  have G13 := ok_bridged (P := l.prog) (w := w) (mg := mg) (base := base) F13 G7 g7 F7.kp b7 G10 g10 F10.kp b10
  have G14 := ok_worse_off (P := l.prog) (w := w) (mg := mg) (base := base) F14 G10 g10 F10.kp b10 y1 y2 y5
  have G15 := ok_law (P := l.prog) (w := w) (mg := mg) (base := base) F15 G1 g1 F1.kp b1 G2 g2 F2.kp b2 G3 g3 F3.kp b3 G4 g4 F4.kp b4 G5 g5 F5.kp b5 G6 g6 F6.kp b6 G7 g7 F7.kp b7 G8 g8 F8.kp b8 G10 g10 F10.kp b10 G11 g11 F11.kp b11 G12 g12 F12.kp b12 G13 g13 F13.kp b13 G14 g14 F14.kp b14 y1 y5 y2
  exact G15
end Lawk29
set_option maxHeartbeats 1600000
namespace Lawk29
open PySem L2 DL TL
abbrev YVer := ((Option Int) × Int)
abbrev yVer : YVer → D := (e2 (eO eI) eI)
abbrev YRul := (Int × OkS)
abbrev yRul : YRul → D := (e2 eI eS)
structure OkVs (versions : List YVer) : Prop where
  l : versions.length ≤ 10
  p : 0 < versions.length
  h0 : (versions.getD 0 (none, 0)).1.isNone = true
  h1 : ∀ k, 0 < k → k < versions.length → (versions.getD k (none, 0)).1.isNone = false
  srt : ∀ j k, 0 < j → j ≤ k → k < versions.length → (versions.getD j (none, 0)).1.getD 0 ≤ (versions.getD k (none, 0)).1.getD 0
structure OkC (case : List (OkS × Int)) : Prop where
  b : okS "begun" ∈ akeys case
  d : okS "done" ∈ akeys case
  j : okS "judged" ∈ akeys case
  le : aget case (okS "done") 0 ≤ aget case (okS "judged") 0
def ways : List OkS := [okS "begun", okS "done", okS "judged", okS "mildest"]
theorem OkC.k {case : List (OkS × Int)} (h : OkC case) {way : OkS} (hw : way ∈ ways) (hn : way ≠ okS "mildest") : way ∈ akeys case := by
  unfold ways at hw
  simp only [List.mem_cons, List.not_mem_nil, or_false] at hw
  rcases hw with z | z | z | z
  · rw [z]; exact h.b
  · rw [z]; exact h.d
  · rw [z]; exact h.j
  · exact absurd z hn
def OkRu (rules : List YRul) : Prop := rules.length ≤ 3 ∧ ∀ r ∈ rules, r.2 ∈ ways
theorem vn_ne {versions : List YVer} (hv : OkVs versions) {day : Int} : ((List.range versions.length).filter (fun (k1 : Nat) => (((versions.getD k1 (none, 0)).1).isNone || (decide ((((versions.getD k1 (none, 0)).1).getD 0) ≤ day))))) ≠ [] := List.ne_nil_of_mem (a := 0) (List.mem_filter.mpr ⟨List.mem_range.mpr hv.p, by rw [hv.h0]; rfl⟩)
theorem mild_ne {versions : List YVer} {first last : Nat} (h1 : first ≤ last) : ((List.range' first ((last + 1) - first)).map (fun (k1 : Nat) => ((versions.getD k1 (none, 0)).2, k1))) ≠ [] := fun e => by
  have := congrArg List.length e
  rw [List.length_map, List.length_range', List.length_nil] at this
  omega
theorem flt_range {p : Nat → Bool} : ∀ n, (∀ j k, j ≤ k → k < n → p k = true → p j = true) → ∃ m, m ≤ n ∧ (List.range n).filter p = List.range m ∧ ∀ k < n, (p k = true ↔ k < m)
  | 0, _ => ⟨0, Nat.le_refl _, rfl, fun k h => by omega⟩
  | n + 1, h => by
    by_cases hp : p n = true
    · refine ⟨n + 1, Nat.le_refl _, List.filter_eq_self.mpr fun k hk => h k n (by have := List.mem_range.mp hk; omega) (by omega) hp, fun k hk => ⟨fun _ => hk, fun _ => h k n (by omega) (by omega) hp⟩⟩
    · obtain ⟨m, h1, h2, h3⟩ := flt_range n fun j k a b => h j k a (by omega)
      refine ⟨m, by omega, ?_, fun k hk => ?_⟩
      · rw [List.range_succ, List.filter_append, h2, List.filter_cons, if_neg hp]; simp
      · by_cases e : k = n
        · subst e; exact ⟨fun z => absurd z hp, fun z => by omega⟩
        · exact h3 k (by omega)
theorem gl_mem {α : Type} {l : List α} (h : l ≠ []) {d : α} : l.getLastD d ∈ l := by
  cases l with
  | nil => exact absurd rfl h
  | cons a l => exact List.getLast_mem _
theorem lf_pos {able : List Nat} {f : Nat → Int} {least : Int} (h : able ≠ []) (e : least = minL (able.map f)) : 0 < (able.filter (fun k7 => decide (f k7 = least))).length := by
  obtain ⟨m1, _⟩ := minL_spec (ns := able.map f) (fun z => h (List.map_eq_nil_iff.mp z))
  obtain ⟨j, hj, ej⟩ := List.mem_map.mp m1
  exact List.length_pos_of_mem (List.mem_filter.mpr ⟨hj, decide_eq_true (ej.trans e.symm)⟩)
theorem able_mem {rules : List YRul} (hr : OkRu rules) {q : YRul → Bool} {able : List OkS} (e : able = ([(okS "done")] : (List OkS)) ++ ((rules.filter q).map (fun (place2 : YRul) => place2.2))) : able.getLastD dS0 ∈ ways ∧ able ≠ [] := by
  have h0 : able ≠ [] := by rw [e]; simp
  refine ⟨?_, h0⟩
  have := gl_mem h0 (d := dS0)
  generalize able.getLastD dS0 = x at this
  rw [e] at this
  rcases List.mem_append.mp this with z | z
  · unfold ways; simp at z; rw [z]; simp
  · obtain ⟨r, hr2, rfl⟩ := List.mem_map.mp z
    exact hr.2 r (List.mem_filter.mp hr2).1
theorem alike_eqT : ∀ n, f__law_alike n = alikeF n
  | 0 => rfl
  | n + 1 => by unfold f__law_alike alikeF; rw [alike_eqT n]; rfl
theorem tv__law_alike {α : Type} (enc : α → D) (n : Nat) (x y : α) (ho : okV n (enc x)) (h : x = y) : Ev [.fz (enc x), .fz (enc y)] (f__law_alike n) .val (.bool true) [.fz (enc x), .fz (enc y)] := alike_eqT n ▸ tv_alike enc n x y ho h
def T__law_on (versions : (List YVer)) (day : Int) : Nat :=
  ((List.range' 1 (versions.length - 1)).filter (fun (k1 : Nat) => (decide ((((versions.getD k1 (none, 0)).1).getD 0) ≤ day)))).length
theorem tv__law_on (versions : (List YVer)) (day : Int) (hv : OkVs versions) : Ev [.fz ((eT yVer) versions), .fz (eI day)] f__law_on .val (eN (T__law_on versions day)) [.fz ((eT yVer) versions), .fz (eI day)] := by
  have hl := hv.l
  have hp := hv.p
  unfold f__law_on
  refine ev_run (n := 2) (enc := eN) (outs := (fun p_ : Nat => [.fz ((eT yVer) versions), .fz (eI day), .any])) (v := T__law_on versions day) ?_
  unfold b__law_on T__law_on
  show Sg [.fz ((eT yVer) versions), .fz (eI day), .any] _ _ _
  refine sg_last ?_
  exact sg_ret (v := ((List.range' 1 (versions.length - 1)).filter (fun (k1 : Nat) => (decide ((((versions.getD k1 (none, 0)).1).getD 0) ≤ day)))).length) (ev_lenL (enc := eN) (xs := ((List.range' 1 (versions.length - 1)).filter (fun (k1 : Nat) => (decide ((((versions.getD k1 (none, 0)).1).getD 0) ≤ day))))) (Ev.eq (ev_lc (enc := eN) (encB := eN) (xs := (List.range' 1 (versions.length - 1))) (p := (fun (k1 : Nat) => (decide ((((versions.getD k1 (none, 0)).1).getD 0) ≤ day)))) (fe := (fun (k1 : Nat) => k1)) (ew_rgNN (n := 1) (m := versions.length) ev_C (ev_lenT (enc := yVer) (xs := versions) (ev_fz (i := 0) rfl)) (by first | exact scQ | (have h_ := List.mem_range'_1.mp (by assumption); omega) | exact hv.h1 _ (by have h_ := List.mem_range'_1.mp (by assumption); omega) (by have h_ := List.mem_range'_1.mp (by assumption); omega) | exact scT /-1-/) (by first | exact scQ | (have h_ := List.mem_range'_1.mp (by assumption); omega) | exact hv.h1 _ (by have h_ := List.mem_range'_1.mp (by assumption); omega) (by have h_ := List.mem_range'_1.mp (by assumption); omega) | exact scT /-2-/)) (by first | exact scQ | (have h_ := List.mem_range'_1.mp (by assumption); omega) | exact hv.h1 _ (by have h_ := List.mem_range'_1.mp (by assumption); omega) (by have h_ := List.mem_range'_1.mp (by assumption); omega) | exact scT /-5-/) (fun k1 hx2 => ⟨_, tg_n, (tj_cmp (p := (decide ((((versions.getD k1 (none, 0)).1).getD 0) ≤ day))) (da := (eI (((versions.getD k1 (none, 0)).1).getD 0))) (db := (eI day)) (Ev.eq (ev_ixC (d := (yVer (versions.getD k1 (none, 0)))) (d' := ((eO eI) ((versions.getD k1 (none, 0)).1))) (ev_ixTN (none, 0) (enc := yVer) (xs := versions) (p := k1) (ev_fz (i := 0) rfl) (ev_fz (i := 2) rfl) (by first | exact scQ | (have h_ := List.mem_range'_1.mp (by assumption); omega) | exact hv.h1 _ (by have h_ := List.mem_range'_1.mp (by assumption); omega) (by have h_ := List.mem_range'_1.mp (by assumption); omega) | exact scT /-3-/)) rfl) (eO_get 0 (by first | exact scQ | (have h_ := List.mem_range'_1.mp (by assumption); omega) | exact hv.h1 _ (by have h_ := List.mem_range'_1.mp (by assumption); omega) (by have h_ := List.mem_range'_1.mp (by assumption); omega) | exact scT /-4-/))) (ev_fz (i := 1) rfl) gLe_ii), (fun _ => leT), fun hp3 => ⟨_, _, (ev_fz (i := 2) rfl), leT⟩⟩)) (map_id_e _ _))) leT roT
def T_version_on (versions : (List YVer)) (day : Int) : Nat :=
  (((List.range versions.length).filter (fun (k1 : Nat) => (((versions.getD k1 (none, 0)).1).isNone || (decide ((((versions.getD k1 (none, 0)).1).getD 0) ≤ day))))).getLastD 0)
theorem tv_version_on (versions : (List YVer)) (day : Int) (hv : OkVs versions) : Ev [.fz ((eT yVer) versions), .fz (eI day)] f_version_on .val (eN (T_version_on versions day)) [.fz ((eT yVer) versions), .fz (eI day)] := by
  have hl := hv.l
  have hp := hv.p
  unfold f_version_on
  refine ev_run (n := 2) (enc := eN) (outs := (fun p_ : Nat => [.fz ((eT yVer) versions), .fz (eI day), .any])) (v := T_version_on versions day) ?_
  unfold b_version_on T_version_on
  show Sg [.fz ((eT yVer) versions), .fz (eI day), .any] _ _ _
  refine sg_last ?_
  exact sg_ret (v := (((List.range versions.length).filter (fun (k1 : Nat) => (((versions.getD k1 (none, 0)).1).isNone || (decide ((((versions.getD k1 (none, 0)).1).getD 0) ≤ day))))).getLastD 0)) (ev_ixLZ 0 (enc := eN) (xs := ((List.range versions.length).filter (fun (k1 : Nat) => (((versions.getD k1 (none, 0)).1).isNone || (decide ((((versions.getD k1 (none, 0)).1).getD 0) ≤ day)))))) (Ev.eq (ev_lc (enc := eN) (encB := eN) (xs := (List.range versions.length)) (p := (fun (k1 : Nat) => (((versions.getD k1 (none, 0)).1).isNone || (decide ((((versions.getD k1 (none, 0)).1).getD 0) ≤ day))))) (fe := (fun (k1 : Nat) => k1)) (ew_rgN (n := versions.length) (ev_lenT (enc := yVer) (xs := versions) (ev_fz (i := 0) rfl)) (by first | exact scQ | (have h_ := List.mem_range.mp (by assumption : _ ∈ List.range _); omega) | exact vn_ne hv | exact scT /-1-/)) (by first | exact scQ | (have h_ := List.mem_range.mp (by assumption : _ ∈ List.range _); omega) | exact vn_ne hv | exact scT /-5-/) (fun k1 hx2 => ⟨_, tg_n, (tj_or (p := ((versions.getD k1 (none, 0)).1).isNone) (q := (decide ((((versions.getD k1 (none, 0)).1).getD 0) ≤ day))) (tj_cmp (p := ((versions.getD k1 (none, 0)).1).isNone) (da := ((eO eI) ((versions.getD k1 (none, 0)).1))) (db := PyData.none) (ev_ixC (d := (yVer (versions.getD k1 (none, 0)))) (d' := ((eO eI) ((versions.getD k1 (none, 0)).1))) (ev_ixTN (none, 0) (enc := yVer) (xs := versions) (p := k1) (ev_fz (i := 0) rfl) (ev_fz (i := 2) rfl) (by first | exact scQ | (have h_ := List.mem_range.mp (by assumption : _ ∈ List.range _); omega) | exact vn_ne hv | exact scT /-2-/)) rfl) ev_C (gIs_O (fun _ => rfl))) (fun hb4 => (tj_cmp (p := (decide ((((versions.getD k1 (none, 0)).1).getD 0) ≤ day))) (da := (eI (((versions.getD k1 (none, 0)).1).getD 0))) (db := (eI day)) (Ev.eq (ev_ixC (d := (yVer (versions.getD k1 (none, 0)))) (d' := ((eO eI) ((versions.getD k1 (none, 0)).1))) (ev_ixTN (none, 0) (enc := yVer) (xs := versions) (p := k1) (ev_fz (i := 0) rfl) (ev_fz (i := 2) rfl) (by first | exact scQ | (have h_ := List.mem_range.mp (by assumption : _ ∈ List.range _); omega) | exact vn_ne hv | exact scT /-3-/)) rfl) (eO_get 0 (by first | exact scQ | (have h_ := List.mem_range.mp (by assumption : _ ∈ List.range _); omega) | exact vn_ne hv | exact scT /-4-/))) (ev_fz (i := 1) rfl) gLe_ii))), (fun _ => leT), fun hp3 => ⟨_, _, (ev_fz (i := 2) rfl), leT⟩⟩)) (map_id_e _ _)) (ev_negI ev_C) (by first | exact scQ | (have h_ := List.mem_range.mp (by assumption : _ ∈ List.range _); omega) | exact vn_ne hv | exact scT /-6-/)) leT roT
def pv (versions : List YVer) (day : Int) (k1 : Nat) : Bool := ((versions.getD k1 (none, 0)).1).isNone || (decide ((((versions.getD k1 (none, 0)).1).getD 0) ≤ day))
theorem von_spec {versions : List YVer} (hv : OkVs versions) (day : Int) : ∃ m, 0 < m ∧ m ≤ versions.length ∧ (∀ k < versions.length, (pv versions day k = true ↔ k < m)) ∧ T_version_on versions day = m - 1 ∧ T__law_on versions day = m - 1 := by
  obtain ⟨m, h1, h2, h3⟩ := flt_range (p := pv versions day) versions.length fun j k hjk hk hp => by
    unfold pv at hp ⊢
    by_cases hj : j = 0
    · subst hj; rw [hv.h0]; rfl
    · rw [hv.h1 k (by omega) hk] at hp
      rw [hv.h1 j (by omega) (by omega)]
      simp only [Bool.false_or, decide_eq_true_eq] at hp ⊢
      exact Int.le_trans (hv.srt j k (by omega) hjk hk) hp
  have h0 : pv versions day 0 = true := by unfold pv; rw [hv.h0]; rfl
  have hm : 0 < m := (h3 0 hv.p).mp h0
  refine ⟨m, hm, h1, h3, ?_, ?_⟩
  · show ((List.range versions.length).filter (pv versions day)).getLastD 0 = _
    rw [h2]
    cases m with
    | zero => omega
    | succ m => rw [List.range_succ, List.getLastD_concat]; omega
  · obtain ⟨n, hn⟩ : ∃ n, versions.length = n + 1 := ⟨versions.length - 1, by have := hv.p; omega⟩
    have e := congrArg List.length h2
    rw [hn, List.range_eq_range', List.range'_succ, List.filter_cons, if_pos h0, List.length_cons, List.length_range] at e
    unfold T__law_on
    rw [hn, show n + 1 - 1 = n by omega]
    have c : (List.range' 1 n).filter (fun (k1 : Nat) => (decide ((((versions.getD k1 (none, 0)).1).getD 0) ≤ day))) = (List.range' (0 + 1) n).filter (pv versions day) := List.filter_congr fun k hk => by
      have hk := List.mem_range'_1.mp hk
      unfold pv
      rw [hv.h1 k (by omega) (by omega)]; rfl
    rw [c]; omega
theorem von_eq {versions : List YVer} (hv : OkVs versions) (day : Int) : T_version_on versions day = T__law_on versions day := by
  obtain ⟨m, _, _, _, a, b⟩ := von_spec hv day
  rw [a, b]
theorem vf_lt {versions : List YVer} (hv : OkVs versions) {day : Int} : T_version_on versions day < versions.length := by
  obtain ⟨m, h0, h1, _, a, b⟩ := von_spec hv day
  omega
theorem lf_lt {versions : List YVer} (hv : OkVs versions) {day : Int} : T__law_on versions day < versions.length := by rw [← von_eq hv]; exact vf_lt hv
theorem vf_mono {versions : List YVer} (hv : OkVs versions) {d e : Int} (h : d ≤ e) : T_version_on versions d ≤ T_version_on versions e := by
  obtain ⟨m, h0, h1, h2, a, b⟩ := von_spec hv d
  obtain ⟨m', h0', h1', h2', a', b'⟩ := von_spec hv e
  have := (h2 (m - 1) (by omega)).mpr (by omega)
  have : pv versions e (m - 1) = true := by
    unfold pv at this ⊢
    simp only [Bool.or_eq_true, decide_eq_true_eq] at this ⊢
    rcases this with z | z
    · exact .inl z
    · exact .inr (Int.le_trans z h)
  have := (h2' (m - 1) (by omega)).mp this
  omega
theorem vf_le {versions : List YVer} (hv : OkVs versions) {case : List (OkS × Int)} (hc : OkC case) : T_version_on versions (aget case (okS "done") 0) ≤ T_version_on versions (aget case (okS "judged") 0) := vf_mono hv hc.le
theorem lf_le {versions : List YVer} (hv : OkVs versions) {case : List (OkS × Int)} (hc : OkC case) : T__law_on versions (aget case (okS "done") 0) ≤ T__law_on versions (aget case (okS "judged") 0) := by rw [← von_eq hv, ← von_eq hv]; exact vf_le hv hc
def T_mildest (versions : (List YVer)) (first : Nat) (last : Nat) : Nat :=
  (minG (e2 eI eN) (0, 0) ((List.range' first ((last + 1) - first)).map (fun (k1 : Nat) => ((versions.getD k1 (none, 0)).2, k1)))).2
theorem tv_mildest (versions : (List YVer)) (first : Nat) (last : Nat) (hv : OkVs versions) (h1 : first ≤ last) (h2 : last < versions.length) : Ev [.fz ((eT yVer) versions), .fz (eN first), .fz (eN last)] f_mildest .val (eN (T_mildest versions first last)) [.fz ((eT yVer) versions), .fz (eN first), .fz (eN last)] := by
  have hl := hv.l
  have hp := hv.p
  unfold f_mildest
  refine ev_run (n := 3) (enc := eN) (outs := (fun p_ : Nat => [.fz ((eT yVer) versions), .fz (eN first), .fz (eN last), .any])) (v := T_mildest versions first last) ?_
  unfold b_mildest T_mildest
  show Sg [.fz ((eT yVer) versions), .fz (eN first), .fz (eN last), .any] _ _ _
  refine sg_last ?_
  exact sg_ret (v := (minG (e2 eI eN) (0, 0) ((List.range' first ((last + 1) - first)).map (fun (k1 : Nat) => ((versions.getD k1 (none, 0)).2, k1)))).2) (ev_ixC (d := ((e2 eI eN) (minG (e2 eI eN) (0, 0) ((List.range' first ((last + 1) - first)).map (fun (k1 : Nat) => ((versions.getD k1 (none, 0)).2, k1)))))) (d' := (eN ((minG (e2 eI eN) (0, 0) ((List.range' first ((last + 1) - first)).map (fun (k1 : Nat) => ((versions.getD k1 (none, 0)).2, k1)))).2))) (ev_minG (enc := (e2 eI eN)) (xs := ((List.range' first ((last + 1) - first)).map (fun (k1 : Nat) => ((versions.getD k1 (none, 0)).2, k1)))) (0, 0) (so_2 (so_int (n := 0)) (so_nat (n := 0))) (fun _ => True.intro) (ev_lcY (enc := eN) (encB := (e2 eI eN)) (xs := (List.range' first ((last + 1) - first))) (fe := (fun (k1 : Nat) => ((versions.getD k1 (none, 0)).2, k1))) (ew_rgNN (n := first) (m := (last + 1)) (ev_fz (i := 1) rfl) (ev_addN (p := last) (q := 1) (ev_fz (i := 2) rfl) ev_C) (by first | exact scQ | exact mild_ne h1 | (have h_ := List.mem_range'_1.mp (by assumption); omega) | exact scT /-1-/) (by first | exact scQ | exact mild_ne h1 | (have h_ := List.mem_range'_1.mp (by assumption); omega) | exact scT /-2-/)) (by first | exact scQ | exact mild_ne h1 | (have h_ := List.mem_range'_1.mp (by assumption); omega) | exact scT /-4-/) (fun k1 hx2 => ⟨_, tg_n, _, _, (ev_tup (ea_cons (da := (eI ((versions.getD k1 (none, 0)).2))) (ev_ixC (d := (yVer (versions.getD k1 (none, 0)))) (d' := (eI ((versions.getD k1 (none, 0)).2))) (ev_ixTN (none, 0) (enc := yVer) (xs := versions) (p := k1) (ev_fz (i := 0) rfl) (ev_fz (i := 3) rfl) (by first | exact scQ | exact mild_ne h1 | (have h_ := List.mem_range'_1.mp (by assumption); omega) | exact scT /-3-/)) rfl) (ea_cons (da := (eN k1)) (ev_fz (i := 3) rfl) ea_nil))), leT⟩)) (by first | exact scQ | exact mild_ne h1 | (have h_ := List.mem_range'_1.mp (by assumption); omega) | exact scT /-5-/) (by first | exact scQ | exact mild_ne h1 | (have h_ := List.mem_range'_1.mp (by assumption); omega) | exact scT /-6-/)) rfl) leT roT
theorem mild_lt {versions : List YVer} {first last : Nat} (h1 : first ≤ last) : first ≤ T_mildest versions first last ∧ T_mildest versions first last ≤ last := by
  have := minG_mem (enc := e2 eI eN) (df := (0, 0)) (mild_ne (versions := versions) h1)
  unfold T_mildest
  obtain ⟨k, hk, e⟩ := List.mem_map.mp this
  rw [← e]
  have := List.mem_range'_1.mp hk
  dsimp only
  omega
theorem mild_eq {versions : List YVer} {first last : Nat} (h1 : first ≤ last) {able : List Nat} (ha : able = List.range' first ((last + 1) - first)) : T_mildest versions first last = ((able.filter (fun (k7 : Nat) => (decide ((versions.getD k7 (none, 0)).2 = minL (able.map (fun (k3 : Nat) => (versions.getD k3 (none, 0)).2)))))).getD 0 0) := by
  have hne : able.map (fun (k3 : Nat) => (versions.getD k3 (none, 0)).2) ≠ [] := fun e => by
    have := congrArg List.length e
    rw [ha, List.length_map, List.length_range', List.length_nil] at this
    omega
  obtain ⟨m1, m2⟩ := minL_spec hne
  generalize hL : minL (able.map (fun (k3 : Nat) => (versions.getD k3 (none, 0)).2)) = least at m1 m2 ⊢
  obtain ⟨j, hj, ej⟩ := List.mem_map.mp m1
  have hp : able.Pairwise (· < ·) := by rw [ha]; exact List.pairwise_lt_range'
  have hf := hp.filter (fun (k7 : Nat) => (decide ((versions.getD k7 (none, 0)).2 = least)))
  have hjf : j ∈ able.filter (fun (k7 : Nat) => (decide ((versions.getD k7 (none, 0)).2 = least))) := List.mem_filter.mpr ⟨hj, decide_eq_true ej⟩
  have hmem : ∀ y, y ∈ able.filter (fun (k7 : Nat) => (decide ((versions.getD k7 (none, 0)).2 = least))) ↔ y ∈ able ∧ (versions.getD y (none, 0)).2 = least := fun y => by rw [List.mem_filter, decide_eq_true_eq]
  generalize able.filter (fun (k7 : Nat) => (decide ((versions.getD k7 (none, 0)).2 = least))) = fl at hf hjf hmem
  cases fl with
  | nil => simp at hjf
  | cons k0 rest =>
    have h0 := (hmem k0).mp (by simp)
    have hle : ∀ y ∈ able, (versions.getD y (none, 0)).2 = least → k0 ≤ y := fun y hy e => by
      rcases List.mem_cons.mp ((hmem y).mpr ⟨hy, e⟩) with z | z
      · omega
      · exact Nat.le_of_lt ((List.pairwise_cons.mp hf).1 y z)
    show _ = k0
    unfold T_mildest
    rw [← ha]
    refine congrArg Prod.snd (minG_eq (so_2 (so_int (n := 0)) (so_nat (n := 0))) (df := (0, 0)) (xs := able.map (fun (k1 : Nat) => ((versions.getD k1 (none, 0)).2, k1))) (m := ((versions.getD k0 (none, 0)).2, k0)) (List.mem_map.mpr ⟨k0, h0.1, rfl⟩) fun y hy => ?_)
    obtain ⟨k, hk, rfl⟩ := List.mem_map.mp hy
    rw [leG_lt, lt_pair, Bool.not_eq_true', decide_eq_false_iff_not]
    have a1 := m2 _ (List.mem_map.mpr ⟨k, hk, rfl⟩)
    have a2 := h0.2
    rintro (z | ⟨z1, z2⟩)
    · omega
    · have := hle k hk (by omega)
      omega
def T_falls_under (versions : (List YVer)) (case : (List (OkS × Int))) (way : OkS) : Nat :=
  if (decide (way = (okS "mildest"))) = true then (T_mildest versions (T_version_on versions (aget case (okS "done") 0)) (T_version_on versions (aget case (okS "judged") 0))) else (T_version_on versions (aget case way 0))
theorem tv_falls_under (versions : (List YVer)) (case : (List (OkS × Int))) (way : OkS) (hv : OkVs versions) (hc : OkC case) (hw : way ∈ ways) : Ev [.fz ((eT yVer) versions), .rd ((eDc eI) case), .fz (eS way)] f_falls_under .val (eN (T_falls_under versions case way)) [.fz ((eT yVer) versions), .rd ((eDc eI) case), .fz (eS way)] := by
  have hl := hv.l
  have hp := hv.p
  unfold f_falls_under
  refine ev_run (n := 3) (enc := eN) (outs := (fun p_ : Nat => [.fz ((eT yVer) versions), .rd ((eDc eI) case), .fz (eS way)])) (v := T_falls_under versions case way) ?_
  unfold b_falls_under T_falls_under
  show Sg [.fz ((eT yVer) versions), .rd ((eDc eI) case), .fz (eS way)] _ _ _
  refine sg_if (tj_cmp (p := (decide (way = (okS "mildest")))) (da := (eS way)) (db := (eS (okS "mildest"))) (ev_fz (i := 2) rfl) ev_C (gEq_g (gd_str (n := 0)))) (fun hc1 => ?_) (fun hc1 => ?_)
  · show Sg [.fz ((eT yVer) versions), .rd ((eDc eI) case), .fz (eS way)] _ _ _
    exact sg_ret (v := (T_mildest versions (T_version_on versions (aget case (okS "done") 0)) (T_version_on versions (aget case (okS "judged") 0)))) (ev_call (tv_mildest versions (T_version_on versions (aget case (okS "done") 0)) (T_version_on versions (aget case (okS "judged") 0)) (by first | exact scQ | exact hv | exact hc | exact hc.d | exact hc.j | exact hc.k hw (not_dec (by assumption)) | exact hc.k hw (by simp_all) | exact vf_lt hv | exact vf_le hv hc | exact hv | exact scT /-5-/) (by first | exact scQ | exact hv | exact hc | exact hc.d | exact hc.j | exact hc.k hw (not_dec (by assumption)) | exact hc.k hw (by simp_all) | exact vf_lt hv | exact vf_le hv hc | exact hv | exact scT /-6-/) (by first | exact scQ | exact hv | exact hc | exact hc.d | exact hc.j | exact hc.k hw (not_dec (by assumption)) | exact hc.k hw (by simp_all) | exact vf_lt hv | exact vf_le hv hc | exact hv | exact scT /-7-/)) (ea_cons (da := ((eT yVer) versions)) (ev_fz (i := 0) rfl) (ea_cons (da := (eN (T_version_on versions (aget case (okS "done") 0)))) (ev_call (tv_version_on versions (aget case (okS "done") 0) (by first | exact scQ | exact hv | exact hc | exact hc.d | exact hc.j | exact hc.k hw (not_dec (by assumption)) | exact hc.k hw (by simp_all) | exact vf_lt hv | exact vf_le hv hc | exact hv | exact scT /-2-/)) (ea_cons (da := ((eT yVer) versions)) (ev_fz (i := 0) rfl) (ea_cons (da := (eI (aget case (okS "done") 0))) (ev_ixA 0 (enc := eI) (kvs := case) (x := (okS "done")) (ev_rd (i := 1) rfl) ev_C (by first | exact scQ | exact hv | exact hc | exact hc.d | exact hc.j | exact hc.k hw (not_dec (by assumption)) | exact hc.k hw (by simp_all) | exact vf_lt hv | exact vf_le hv hc | exact hv | exact scT /-1-/)) ea_nil)) rdT) (ea_cons (da := (eN (T_version_on versions (aget case (okS "judged") 0)))) (ev_call (tv_version_on versions (aget case (okS "judged") 0) (by first | exact scQ | exact hv | exact hc | exact hc.d | exact hc.j | exact hc.k hw (not_dec (by assumption)) | exact hc.k hw (by simp_all) | exact vf_lt hv | exact vf_le hv hc | exact hv | exact scT /-4-/)) (ea_cons (da := ((eT yVer) versions)) (ev_fz (i := 0) rfl) (ea_cons (da := (eI (aget case (okS "judged") 0))) (ev_ixA 0 (enc := eI) (kvs := case) (x := (okS "judged")) (ev_rd (i := 1) rfl) ev_C (by first | exact scQ | exact hv | exact hc | exact hc.d | exact hc.j | exact hc.k hw (not_dec (by assumption)) | exact hc.k hw (by simp_all) | exact vf_lt hv | exact vf_le hv hc | exact hv | exact scT /-3-/)) ea_nil)) rdT) ea_nil))) rdT) leT roT
  · show Sg [.fz ((eT yVer) versions), .rd ((eDc eI) case), .fz (eS way)] _ _ _
    refine sg_skip ?_
    refine sg_last ?_
    exact sg_ret (v := (T_version_on versions (aget case way 0))) (ev_call (tv_version_on versions (aget case way 0) (by first | exact scQ | exact hv | exact hc | exact hc.d | exact hc.j | exact hc.k hw (not_dec (by assumption)) | exact hc.k hw (by simp_all) | exact vf_lt hv | exact vf_le hv hc | exact hv | exact scT /-9-/)) (ea_cons (da := ((eT yVer) versions)) (ev_fz (i := 0) rfl) (ea_cons (da := (eI (aget case way 0))) (ev_ixA 0 (enc := eI) (kvs := case) (x := way) (ev_rd (i := 1) rfl) (ev_fz (i := 2) rfl) (by first | exact scQ | exact hv | exact hc | exact hc.d | exact hc.j | exact hc.k hw (not_dec (by assumption)) | exact hc.k hw (by simp_all) | exact vf_lt hv | exact vf_le hv hc | exact hv | exact scT /-8-/)) ea_nil)) rdT) leT roT
theorem falls_lt {versions : List YVer} (hv : OkVs versions) {case : List (OkS × Int)} (hc : OkC case) {way : OkS} : T_falls_under versions case way < versions.length := by
  unfold T_falls_under
  split
  · exact Nat.lt_of_le_of_lt (mild_lt (vf_le hv hc)).2 (vf_lt hv)
  · exact vf_lt hv
def T_same_ways (versions : (List YVer)) (case : (List (OkS × Int))) : (List OkS) :=
  Let ((T_falls_under versions case (okS "done")) : Nat) fun due1 => ([(okS "begun"), (okS "done"), (okS "judged"), (okS "mildest")].filter (fun (way2 : OkS) => (decide ((T_falls_under versions case way2) = due1))))
theorem tv_same_ways (versions : (List YVer)) (case : (List (OkS × Int))) (hv : OkVs versions) (hc : OkC case) : Ev [.fz ((eT yVer) versions), .rd ((eDc eI) case)] f_same_ways .val ((eT eS) (T_same_ways versions case)) [.fz ((eT yVer) versions), .rd ((eDc eI) case)] := by
  have hl := hv.l
  have hp := hv.p
  unfold f_same_ways
  refine ev_run (n := 2) (enc := (eT eS)) (outs := (fun p_ : (List OkS) => [.fz ((eT yVer) versions), .rd ((eDc eI) case), .any, .any])) (v := T_same_ways versions case) ?_
  unfold b_same_ways T_same_ways
  show Sg [.fz ((eT yVer) versions), .rd ((eDc eI) case), .any, .any] _ _ _
  refine sg_set (d := (eN (T_falls_under versions case (okS "done")))) (ev_call (tv_falls_under versions case (okS "done") (by first | exact scQ | exact hv | exact hc | exact hc.d | exact hc.j | exact hc.k hw (not_dec (by assumption)) | exact hc.k hw (by simp_all) | exact vf_lt hv | exact vf_le hv hc | exact hv | decide | assumption | exact scT /-1-/) (by first | exact scQ | exact hv | exact hc | exact hc.d | exact hc.j | exact hc.k hw (not_dec (by assumption)) | exact hc.k hw (by simp_all) | exact vf_lt hv | exact vf_le hv hc | exact hv | decide | assumption | exact scT /-2-/) (by first | exact scQ | exact hv | exact hc | exact hc.d | exact hc.j | exact hc.k hw (not_dec (by assumption)) | exact hc.k hw (by simp_all) | exact vf_lt hv | exact vf_le hv hc | exact hv | decide | assumption | exact scT /-3-/)) (ea_cons (da := ((eT yVer) versions)) (ev_fz (i := 0) rfl) (ea_cons (da := ((eDc eI) case)) (ev_rd (i := 1) rfl) (ea_cons (da := (eS (okS "done"))) ev_C ea_nil))) rdT) ?_
  refine sg_gen (fun due1 : Nat => [.fz ((eT yVer) versions), .rd ((eDc eI) case), .fz (eN due1), .any]) (x := (T_falls_under versions case (okS "done"))) fun due1 hdue1 => ?_
  refine sg_last ?_
  exact sg_ret (v := ([(okS "begun"), (okS "done"), (okS "judged"), (okS "mildest")].filter (fun (way2 : OkS) => (decide ((T_falls_under versions case way2) = due1))))) (ev_tupL (enc := eS) (xs := ([(okS "begun"), (okS "done"), (okS "judged"), (okS "mildest")].filter (fun (way2 : OkS) => (decide ((T_falls_under versions case way2) = due1))))) (Ev.eq (ev_lc (enc := eS) (encB := eS) (xs := [(okS "begun"), (okS "done"), (okS "judged"), (okS "mildest")]) (p := (fun (way2 : OkS) => (decide ((T_falls_under versions case way2) = due1)))) (fe := (fun (way2 : OkS) => way2)) (ew_val (d := ((eT eS) [(okS "begun"), (okS "done"), (okS "judged"), (okS "mildest")])) (ev_tup (ea_cons (da := (eS (okS "begun"))) ev_C (ea_cons (da := (eS (okS "done"))) ev_C (ea_cons (da := (eS (okS "judged"))) ev_C (ea_cons (da := (eS (okS "mildest"))) ev_C ea_nil))))) rfl) (by first | exact scQ | exact hv | exact hc | exact hc.d | exact hc.j | exact hc.k hw (not_dec (by assumption)) | exact hc.k hw (by simp_all) | exact vf_lt hv | exact vf_le hv hc | exact hv | decide | assumption | exact scT /-7-/) (fun way2 hx3 => ⟨_, tg_n, (tj_cmp (p := (decide ((T_falls_under versions case way2) = due1))) (da := (eN (T_falls_under versions case way2))) (db := (eN due1)) (ev_call (tv_falls_under versions case way2 (by first | exact scQ | exact hv | exact hc | exact hc.d | exact hc.j | exact hc.k hw (not_dec (by assumption)) | exact hc.k hw (by simp_all) | exact vf_lt hv | exact vf_le hv hc | exact hv | decide | assumption | exact scT /-4-/) (by first | exact scQ | exact hv | exact hc | exact hc.d | exact hc.j | exact hc.k hw (not_dec (by assumption)) | exact hc.k hw (by simp_all) | exact vf_lt hv | exact vf_le hv hc | exact hv | decide | assumption | exact scT /-5-/) (by first | exact scQ | exact hv | exact hc | exact hc.d | exact hc.j | exact hc.k hw (not_dec (by assumption)) | exact hc.k hw (by simp_all) | exact vf_lt hv | exact vf_le hv hc | exact hv | decide | assumption | exact scT /-6-/)) (ea_cons (da := ((eT yVer) versions)) (ev_fz (i := 0) rfl) (ea_cons (da := ((eDc eI) case)) (ev_rd (i := 1) rfl) (ea_cons (da := (eS way2)) (ev_fz (i := 3) rfl) ea_nil))) rdT) (ev_fz (i := 2) rfl) gEq_nn), (fun _ => leT), fun hp4 => ⟨_, _, (ev_fz (i := 3) rfl), leT⟩⟩)) (map_id_e _ _))) leT roT
def T_bridged (versions : (List YVer)) (case : (List (OkS × Int))) (rules : (List YRul)) : Nat :=
  Let ((T_version_on versions (aget case (okS "judged") 0)) : Nat) fun last1 => Let ((([(okS "done")] : (List OkS)) ++ ((rules.filter (fun (place2 : YRul) => (decide (place2.1 ≤ ((last1 : Nat) : Int))))).map (fun (place2 : YRul) => place2.2))) : (List OkS)) fun able5 => (T_falls_under versions case (able5.getLastD dS0))
theorem tv_bridged (versions : (List YVer)) (case : (List (OkS × Int))) (rules : (List YRul)) (hv : OkVs versions) (hc : OkC case) (hr : OkRu rules) : Ev [.fz ((eT yVer) versions), .rd ((eDc eI) case), .fz ((eT yRul) rules)] f_bridged .val (eN (T_bridged versions case rules)) [.fz ((eT yVer) versions), .rd ((eDc eI) case), .fz ((eT yRul) rules)] := by
  have hl := hv.l
  have hp := hv.p
  have hrl := hr.1
  unfold f_bridged
  refine ev_run (n := 3) (enc := eN) (outs := (fun p_ : Nat => [.fz ((eT yVer) versions), .rd ((eDc eI) case), .fz ((eT yRul) rules), .any, .any, .any, .any])) (v := T_bridged versions case rules) ?_
  unfold b_bridged T_bridged
  show Sg [.fz ((eT yVer) versions), .rd ((eDc eI) case), .fz ((eT yRul) rules), .any, .any, .any, .any] _ _ _
  refine sg_set (d := (eN (T_version_on versions (aget case (okS "judged") 0)))) (ev_call (tv_version_on versions (aget case (okS "judged") 0) (by first | exact scQ | exact hv | exact hc | exact hc.d | exact hc.j | exact hc.k hw (not_dec (by assumption)) | exact hc.k hw (by simp_all) | exact vf_lt hv | exact vf_le hv hc | exact hv | exact hab.1 | exact hab.2 | (have h_ := List.length_filter_le (fun (place2 : YRul) => (decide (place2.1 ≤ ((last1 : Nat) : Int)))) rules; rw [List.length_map]; simp only [List.length_cons, List.length_nil]; omega) | exact scT /-2-/)) (ea_cons (da := ((eT yVer) versions)) (ev_fz (i := 0) rfl) (ea_cons (da := (eI (aget case (okS "judged") 0))) (ev_ixA 0 (enc := eI) (kvs := case) (x := (okS "judged")) (ev_rd (i := 1) rfl) ev_C (by first | exact scQ | exact hv | exact hc | exact hc.d | exact hc.j | exact hc.k hw (not_dec (by assumption)) | exact hc.k hw (by simp_all) | exact vf_lt hv | exact vf_le hv hc | exact hv | exact hab.1 | exact hab.2 | (have h_ := List.length_filter_le (fun (place2 : YRul) => (decide (place2.1 ≤ ((last1 : Nat) : Int)))) rules; rw [List.length_map]; simp only [List.length_cons, List.length_nil]; omega) | exact scT /-1-/)) ea_nil)) rdT) ?_
  refine sg_gen (fun last1 : Nat => [.fz ((eT yVer) versions), .rd ((eDc eI) case), .fz ((eT yRul) rules), .fz (eN last1), .any, .any, .any]) (x := (T_version_on versions (aget case (okS "judged") 0))) fun last1 hlast1 => ?_
  refine sg_set (d := ((eL eS) (([(okS "done")] : (List OkS)) ++ ((rules.filter (fun (place2 : YRul) => (decide (place2.1 ≤ ((last1 : Nat) : Int))))).map (fun (place2 : YRul) => place2.2))))) (ev_addL (enc := eS) (xs := ([(okS "done")] : (List OkS))) (ys := ((rules.filter (fun (place2 : YRul) => (decide (place2.1 ≤ ((last1 : Nat) : Int))))).map (fun (place2 : YRul) => place2.2))) (ev_lst (ea_cons (da := (eS (okS "done"))) ev_C ea_nil)) (ev_lc (enc := yRul) (encB := eS) (xs := rules) (p := (fun (place2 : YRul) => (decide (place2.1 ≤ ((last1 : Nat) : Int))))) (fe := (fun (place2 : YRul) => place2.2)) (ew_val (d := ((eT yRul) rules)) (ev_fz (i := 2) rfl) rfl) (by first | exact scQ | exact hv | exact hc | exact hc.d | exact hc.j | exact hc.k hw (not_dec (by assumption)) | exact hc.k hw (by simp_all) | exact vf_lt hv | exact vf_le hv hc | exact hv | exact hab.1 | exact hab.2 | (have h_ := List.length_filter_le (fun (place2 : YRul) => (decide (place2.1 ≤ ((last1 : Nat) : Int)))) rules; rw [List.length_map]; simp only [List.length_cons, List.length_nil]; omega) | exact scT /-3-/) (fun place2 hx3 => ⟨_, (tg_t (tg_cons tg_n (tg_cons tg_n tg_nil))), (tj_cmp (p := (decide (place2.1 ≤ ((last1 : Nat) : Int)))) (da := (eI place2.1)) (db := (eI ((last1 : Nat) : Int))) (ev_fz (i := 5) rfl) (ev_fz (i := 3) rfl) gLe_ii), (fun _ => leT), fun hp4 => ⟨_, _, (ev_fz (i := 6) rfl), leT⟩⟩)) (by first | exact scQ | exact hv | exact hc | exact hc.d | exact hc.j | exact hc.k hw (not_dec (by assumption)) | exact hc.k hw (by simp_all) | exact vf_lt hv | exact vf_le hv hc | exact hv | exact hab.1 | exact hab.2 | (have h_ := List.length_filter_le (fun (place2 : YRul) => (decide (place2.1 ≤ ((last1 : Nat) : Int)))) rules; rw [List.length_map]; simp only [List.length_cons, List.length_nil]; omega) | exact scT /-4-/)) ?_
  refine sg_gen (fun able5 : (List OkS) => [.fz ((eT yVer) versions), .rd ((eDc eI) case), .fz ((eT yRul) rules), .fz (eN last1), .ow ((eL eS) able5), .any, .any]) (x := (([(okS "done")] : (List OkS)) ++ ((rules.filter (fun (place2 : YRul) => (decide (place2.1 ≤ ((last1 : Nat) : Int))))).map (fun (place2 : YRul) => place2.2)))) fun able5 hable5 => ?_
  have hab := able_mem hr hable5
  refine sg_last ?_
  exact sg_ret (v := (T_falls_under versions case (able5.getLastD dS0))) (ev_call (tv_falls_under versions case (able5.getLastD dS0) (by first | exact scQ | exact hv | exact hc | exact hc.d | exact hc.j | exact hc.k hw (not_dec (by assumption)) | exact hc.k hw (by simp_all) | exact vf_lt hv | exact vf_le hv hc | exact hv | exact hab.1 | exact hab.2 | (have h_ := List.length_filter_le (fun (place2 : YRul) => (decide (place2.1 ≤ ((last1 : Nat) : Int)))) rules; rw [List.length_map]; simp only [List.length_cons, List.length_nil]; omega) | exact scT /-6-/) (by first | exact scQ | exact hv | exact hc | exact hc.d | exact hc.j | exact hc.k hw (not_dec (by assumption)) | exact hc.k hw (by simp_all) | exact vf_lt hv | exact vf_le hv hc | exact hv | exact hab.1 | exact hab.2 | (have h_ := List.length_filter_le (fun (place2 : YRul) => (decide (place2.1 ≤ ((last1 : Nat) : Int)))) rules; rw [List.length_map]; simp only [List.length_cons, List.length_nil]; omega) | exact scT /-7-/) (by first | exact scQ | exact hv | exact hc | exact hc.d | exact hc.j | exact hc.k hw (not_dec (by assumption)) | exact hc.k hw (by simp_all) | exact vf_lt hv | exact vf_le hv hc | exact hv | exact hab.1 | exact hab.2 | (have h_ := List.length_filter_le (fun (place2 : YRul) => (decide (place2.1 ≤ ((last1 : Nat) : Int)))) rules; rw [List.length_map]; simp only [List.length_cons, List.length_nil]; omega) | exact scT /-8-/)) (ea_cons (da := ((eT yVer) versions)) (ev_fz (i := 0) rfl) (ea_cons (da := ((eDc eI) case)) (ev_rd (i := 1) rfl) (ea_cons (da := (eS (able5.getLastD dS0))) (ev_ixLZ dS0 (enc := eS) (xs := able5) (ev_ow (i := 4) rfl) (ev_negI ev_C) (by first | exact scQ | exact hv | exact hc | exact hc.d | exact hc.j | exact hc.k hw (not_dec (by assumption)) | exact hc.k hw (by simp_all) | exact vf_lt hv | exact vf_le hv hc | exact hv | exact hab.1 | exact hab.2 | (have h_ := List.length_filter_le (fun (place2 : YRul) => (decide (place2.1 ≤ ((last1 : Nat) : Int)))) rules; rw [List.length_map]; simp only [List.length_cons, List.length_nil]; omega) | exact scT /-5-/)) ea_nil))) rdT) leT roT
def T_worse_off (versions : (List YVer)) (cases : (List (List (OkS × Int)))) (way : OkS) : (List Nat) :=
  Let (([] : (List Nat)) : (List Nat)) fun found1 => Let (List.foldl (fun (s2 : ((List Nat))) (k4 : Nat) => Let ((versions.getD (T_falls_under versions (cases.getD k4 []) way) (none, 0)).2 : Int) fun worth7 => if (decide ((versions.getD (T_falls_under versions (cases.getD k4 []) (okS "mildest")) (none, 0)).2 < worth7)) = true then Let ((s2 ++ [k4]) : (List Nat)) fun found9 => found9 else s2) found1 (List.range cases.length)) fun (s2 : ((List Nat))) => s2
theorem tv_worse_off (versions : (List YVer)) (cases : (List (List (OkS × Int)))) (way : OkS) (hv : OkVs versions) (hcs : ∀ c ∈ cases, OkC c) (hcl : cases.length ≤ 4) (hw : way ∈ ways) : Ev [.fz ((eT yVer) versions), .fz ((eT (eDc eI)) cases), .fz (eS way)] f_worse_off .val ((eT eN) (T_worse_off versions cases way)) [.fz ((eT yVer) versions), .fz ((eT (eDc eI)) cases), .fz (eS way)] := by
  have hl := hv.l
  have hp := hv.p
  unfold f_worse_off
  refine ev_run (n := 3) (enc := (eT eN)) (outs := (fun p_ : (List Nat) => [.fz ((eT yVer) versions), .fz ((eT (eDc eI)) cases), .fz (eS way), .any, .any, .any])) (v := T_worse_off versions cases way) ?_
  unfold b_worse_off T_worse_off
  show Sg [.fz ((eT yVer) versions), .fz ((eT (eDc eI)) cases), .fz (eS way), .any, .any, .any] _ _ _
  refine sg_set (d := ((eL eN) ([] : (List Nat)))) (ev_lst ea_nil) ?_
  refine sg_gen (fun found1 : (List Nat) => [.fz ((eT yVer) versions), .fz ((eT (eDc eI)) cases), .fz (eS way), .ow ((eL eN) found1), .any, .any]) (x := ([] : (List Nat))) fun found1 hfound1 => ?_
  refine sg_for (step := (fun (s2 : ((List Nat))) (k4 : Nat) => Let ((versions.getD (T_falls_under versions (cases.getD k4 []) way) (none, 0)).2 : Int) fun worth7 => if (decide ((versions.getD (T_falls_under versions (cases.getD k4 []) (okS "mildest")) (none, 0)).2 < worth7)) = true then Let ((s2 ++ [k4]) : (List Nat)) fun found9 => found9 else s2)) (enc := eN) (xs := (List.range cases.length)) (s0 := found1) (fun (s2 : ((List Nat))) => [.fz ((eT yVer) versions), .fz ((eT (eDc eI)) cases), .fz (eS way), .ow ((eL eN) s2), .any, .any]) (fun (k : Nat) (s2 : ((List Nat))) => s2.length ≤ k) (ew_rgN (n := cases.length) (ev_lenT (enc := (eDc eI)) (xs := cases) (ev_fz (i := 1) rfl)) (by first | exact scQ | exact hv | exact hC_ | exact falls_lt hv hC_ | exact hw | decide | exact scT /-1-/)) leT (by rw [hfound1]; simp) (fun k3 k4 s2 hk5 hI6 => ⟨_, tg_n, ?_⟩) (by intro k3 k4 s2 hk5 hI6; (unfold Let; dsimp only; split; rw [List.length_append]; simp; omega; omega)) (fun s2 hs2 hI6 => ?_)
  · show Sg [.fz ((eT yVer) versions), .fz ((eT (eDc eI)) cases), .fz (eS way), .ow ((eL eN) s2), .fz (eN k4), .any] _ _ _
    have hlthk5 := lt_of_get hk5
    have hmhk5 := List.mem_of_getElem? hk5
    have hk4_ := List.mem_range.mp hmhk5
    have hlk_ := hlthk5
    rw [List.length_range] at hlk_
    have hC_ := hcs _ (getD_mem' [] hk4_)
    refine sg_set (d := (eI ((versions.getD (T_falls_under versions (cases.getD k4 []) way) (none, 0)).2))) (ev_ixC (d := (yVer (versions.getD (T_falls_under versions (cases.getD k4 []) way) (none, 0)))) (d' := (eI ((versions.getD (T_falls_under versions (cases.getD k4 []) way) (none, 0)).2))) (ev_ixTN (none, 0) (enc := yVer) (xs := versions) (p := (T_falls_under versions (cases.getD k4 []) way)) (ev_fz (i := 0) rfl) (ev_call (tv_falls_under versions (cases.getD k4 []) way (by first | exact scQ | exact hv | exact hC_ | exact falls_lt hv hC_ | exact hw | decide | exact scT /-3-/) (by first | exact scQ | exact hv | exact hC_ | exact falls_lt hv hC_ | exact hw | decide | exact scT /-4-/) (by first | exact scQ | exact hv | exact hC_ | exact falls_lt hv hC_ | exact hw | decide | exact scT /-5-/)) (ea_cons (da := ((eT yVer) versions)) (ev_fz (i := 0) rfl) (ea_cons (da := ((eDc eI) (cases.getD k4 []))) (ev_ixTN [] (enc := (eDc eI)) (xs := cases) (p := k4) (ev_fz (i := 1) rfl) (ev_fz (i := 4) rfl) (by first | exact scQ | exact hv | exact hC_ | exact falls_lt hv hC_ | exact hw | decide | exact scT /-2-/)) (ea_cons (da := (eS way)) (ev_fz (i := 2) rfl) ea_nil))) rdT) (by first | exact scQ | exact hv | exact hC_ | exact falls_lt hv hC_ | exact hw | decide | exact scT /-6-/)) rfl) ?_
    refine sg_gen (fun worth7 : Int => [.fz ((eT yVer) versions), .fz ((eT (eDc eI)) cases), .fz (eS way), .ow ((eL eN) s2), .fz (eN k4), .fz (eI worth7)]) (x := (versions.getD (T_falls_under versions (cases.getD k4 []) way) (none, 0)).2) fun worth7 hworth7 => ?_
    refine sg_last ?_
    refine sg_if (tj_cmp (p := (decide ((versions.getD (T_falls_under versions (cases.getD k4 []) (okS "mildest")) (none, 0)).2 < worth7))) (da := (eI worth7)) (db := (eI ((versions.getD (T_falls_under versions (cases.getD k4 []) (okS "mildest")) (none, 0)).2))) (ev_fz (i := 5) rfl) (ev_ixC (d := (yVer (versions.getD (T_falls_under versions (cases.getD k4 []) (okS "mildest")) (none, 0)))) (d' := (eI ((versions.getD (T_falls_under versions (cases.getD k4 []) (okS "mildest")) (none, 0)).2))) (ev_ixTN (none, 0) (enc := yVer) (xs := versions) (p := (T_falls_under versions (cases.getD k4 []) (okS "mildest"))) (ev_fz (i := 0) rfl) (ev_call (tv_falls_under versions (cases.getD k4 []) (okS "mildest") (by first | exact scQ | exact hv | exact hC_ | exact falls_lt hv hC_ | exact hw | decide | exact scT /-8-/) (by first | exact scQ | exact hv | exact hC_ | exact falls_lt hv hC_ | exact hw | decide | exact scT /-9-/) (by first | exact scQ | exact hv | exact hC_ | exact falls_lt hv hC_ | exact hw | decide | exact scT /-10-/)) (ea_cons (da := ((eT yVer) versions)) (ev_fz (i := 0) rfl) (ea_cons (da := ((eDc eI) (cases.getD k4 []))) (ev_ixTN [] (enc := (eDc eI)) (xs := cases) (p := k4) (ev_fz (i := 1) rfl) (ev_fz (i := 4) rfl) (by first | exact scQ | exact hv | exact hC_ | exact falls_lt hv hC_ | exact hw | decide | exact scT /-7-/)) (ea_cons (da := (eS (okS "mildest"))) ev_C ea_nil))) rdT) (by first | exact scQ | exact hv | exact hC_ | exact falls_lt hv hC_ | exact hw | decide | exact scT /-11-/)) rfl) gGt_ii) (fun hc8 => ?_) (fun hc8 => ?_)
    · show Sg [.fz ((eT yVer) versions), .fz ((eT (eDc eI)) cases), .fz (eS way), .ow ((eL eN) s2), .fz (eN k4), .fz (eI worth7)] _ _ _
      refine sg_drop (ev_app (enc := eN) (xs := s2) (x := k4) rfl (ev_fz (i := 4) rfl) rfl (by first | exact scQ | exact hv | exact hC_ | exact falls_lt hv hC_ | exact hw | decide | exact scT /-12-/)) ?_
      refine sg_gen (fun found9 : (List Nat) => [.fz ((eT yVer) versions), .fz ((eT (eDc eI)) cases), .fz (eS way), .ow ((eL eN) found9), .fz (eN k4), .fz (eI worth7)]) (x := (s2 ++ [k4])) fun found9 hfound9 => ?_
      exact sg_passN leT
    · show Sg [.fz ((eT yVer) versions), .fz ((eT (eDc eI)) cases), .fz (eS way), .ow ((eL eN) s2), .fz (eN k4), .fz (eI worth7)] _ _ _
      refine sg_skip ?_
      exact sg_passN leT
  show Sg [.fz ((eT yVer) versions), .fz ((eT (eDc eI)) cases), .fz (eS way), .ow ((eL eN) s2), .any, .any] _ _ _
  refine sg_last ?_
  exact sg_ret (v := s2) (ev_tupL (enc := eN) (xs := s2) (ev_ow (i := 3) rfl)) leT roT
def T__law_versions (ds : List Int) (i_w : Nat)  : ((List YVer) × Nat) :=
  Let (([(none, (nx ds i_w (5 : Int)))] : (List YVer)) : (List YVer)) fun found1 => Let (List.foldl (fun (s2 : (Int × Nat × (List YVer))) (k4 : Nat) => Let ((s2.1 + ((1 : Int) + (nx ds s2.2.1 (4 : Int)))) : Int) fun day7 => Let ((s2.2.2 ++ [((some day7), (nx ds (s2.2.1 + 1) (5 : Int)))]) : (List YVer)) fun found8 => (day7, s2.2.1 + 1 + 1, found8)) ((0 : Int), i_w + 1 + 1, found1) (List.range (nx ds (i_w + 1) (5 : Int)).toNat)) fun (s2 : (Int × Nat × (List YVer))) => (s2.2.2, s2.2.1)
theorem tv__law_versions (ds : List Int) (i_w : Nat)   : Ev [.ow (Wd ds ((i_w : Nat) : Int))] f__law_versions .val ((fun p_ : ((List YVer) × Nat) => (eT yVer) p_.1) (T__law_versions ds i_w )) [.ow (Wd ds (((T__law_versions ds i_w ).2 : Nat) : Int))] := by
  unfold f__law_versions
  refine ev_run (n := 1) (enc := (fun p_ : ((List YVer) × Nat) => (eT yVer) p_.1)) (outs := (fun p_ : ((List YVer) × Nat) => [.ow (Wd ds ((p_.2 : Nat) : Int)), .any, .any, .any])) (v := T__law_versions ds i_w ) ?_
  unfold b__law_versions T__law_versions
  show Sg [.ow (Wd ds ((i_w : Nat) : Int)), .any, .any, .any] _ _ _
  have bx1 := nx_bd ds i_w (5 : Int) scT
  refine sg_par (ea_cons (da := ((eL yVer) ([(none, (nx ds i_w (5 : Int)))] : (List YVer)))) (ev_lst (ea_cons (da := (yVer (none, (nx ds i_w (5 : Int))))) (ev_tup (ea_cons (da := ((eO eI) none)) ev_C (ea_cons (da := (eI (nx ds i_w (5 : Int)))) (ev_call (tv_next ds i_w (5 : Int) (by first | exact scQ | exact scT /-1-/)) (ea_consO (i := 0) rfl (ea_cons (da := .int (5 : Int)) ev_C ea_nil)) rdT) ea_nil))) ea_nil)) (ea_cons (da := (eI (0 : Int))) ev_C ea_nil)) rdT ?_
  refine sg_gen (fun found1 : (List YVer) => [.ow (Wd ds ((i_w + 1 : Nat) : Int)), .ow ((eL yVer) found1), .fz (eI (0 : Int)), .any]) (x := ([(none, (nx ds i_w (5 : Int)))] : (List YVer))) fun found1 hfound1 => ?_
  show Sg [.ow (Wd ds ((i_w + 1 : Nat) : Int)), .ow ((eL yVer) found1), .fz (eI (0 : Int)), .any] _ _ _
  have bx2 := nx_bd ds (i_w + 1) (5 : Int) scT
  refine sg_for (step := (fun (s2 : (Int × Nat × (List YVer))) (k4 : Nat) => Let ((s2.1 + ((1 : Int) + (nx ds s2.2.1 (4 : Int)))) : Int) fun day7 => Let ((s2.2.2 ++ [((some day7), (nx ds (s2.2.1 + 1) (5 : Int)))]) : (List YVer)) fun found8 => (day7, s2.2.1 + 1 + 1, found8))) (enc := eN) (xs := (List.range (nx ds (i_w + 1) (5 : Int)).toNat)) (s0 := ((0 : Int), i_w + 1 + 1, found1)) (fun (s2 : (Int × Nat × (List YVer))) => [.ow (Wd ds ((s2.2.1 : Nat) : Int)), .ow ((eL yVer) s2.2.2), .fz (eI s2.1), .any]) (fun (k : Nat) (s2 : (Int × Nat × (List YVer))) => s2.2.2.length ≤ k + 1) (ew_rgI (x := (nx ds (i_w + 1) (5 : Int))) (ev_call (tv_next ds (i_w + 1) (5 : Int) (by first | exact scQ | exact scT /-2-/)) (ea_consO (i := 0) rfl (ea_cons (da := .int (5 : Int)) ev_C ea_nil)) rdT) (by first | exact scQ | exact scT /-3-/) (by first | exact scQ | exact scT /-4-/)) leT (by rw [hfound1]; simp) (fun k3 k4 s2 hk5 hI6 => ⟨_, tg_n, ?_⟩) (by intro k3 k4 s2 hk5 hI6; (unfold Let; dsimp only; rw [List.length_append]; simp; omega)) (fun s2 hs2 hI6 => ?_)
  · show Sg [.ow (Wd ds ((s2.2.1 : Nat) : Int)), .ow ((eL yVer) s2.2.2), .fz (eI s2.1), .fz (eN k4)] _ _ _
    have hlthk5 := lt_of_get hk5
    have hmhk5 := List.mem_of_getElem? hk5
    have hlk_ := hlthk5
    rw [List.length_range] at hlk_
    have hb_ := nx_bd ds (i_w + 1) 5 (by decide)
    have bx5 := nx_bd ds s2.2.1 (4 : Int) scT
    refine sg_aug (da := (eI s2.1)) (d := (eI ((1 : Int) + (nx ds s2.2.1 (4 : Int))))) (dn := eI (s2.1 + ((1 : Int) + (nx ds s2.2.1 (4 : Int))))) rfl (ev_addI (x := (1 : Int)) (y := (nx ds s2.2.1 (4 : Int))) ev_C (ev_call (tv_next ds s2.2.1 (4 : Int) (by first | exact scQ | exact scT /-5-/)) (ea_consO (i := 0) rfl (ea_cons (da := .int (4 : Int)) ev_C ea_nil)) rdT)) rfl ?_
    refine sg_gen (fun day7 : Int => [.ow (Wd ds ((s2.2.1 + 1 : Nat) : Int)), .ow ((eL yVer) s2.2.2), .fz (eI day7), .fz (eN k4)]) (x := (s2.1 + ((1 : Int) + (nx ds s2.2.1 (4 : Int))))) fun day7 hday7 => ?_
    refine sg_last ?_
    have bx6 := nx_bd ds (s2.2.1 + 1) (5 : Int) scT
    refine sg_drop (ev_app (enc := yVer) (xs := s2.2.2) (x := ((some day7), (nx ds (s2.2.1 + 1) (5 : Int)))) rfl (ev_tup (ea_cons (da := ((eO eI) (some day7))) (ev_fz (i := 2) rfl) (ea_cons (da := (eI (nx ds (s2.2.1 + 1) (5 : Int)))) (ev_call (tv_next ds (s2.2.1 + 1) (5 : Int) (by first | exact scQ | exact scT /-6-/)) (ea_consO (i := 0) rfl (ea_cons (da := .int (5 : Int)) ev_C ea_nil)) rdT) ea_nil))) rfl (by first | exact scQ | exact scT /-7-/)) ?_
    refine sg_gen (fun found8 : (List YVer) => [.ow (Wd ds ((s2.2.1 + 1 + 1 : Nat) : Int)), .ow ((eL yVer) found8), .fz (eI day7), .fz (eN k4)]) (x := (s2.2.2 ++ [((some day7), (nx ds (s2.2.1 + 1) (5 : Int)))])) fun found8 hfound8 => ?_
    exact sg_passN leT
  show Sg [.ow (Wd ds ((s2.2.1 : Nat) : Int)), .ow ((eL yVer) s2.2.2), .fz (eI s2.1), .any] _ _ _
  refine sg_last ?_
  exact sg_ret (v := (s2.2.2, s2.2.1)) (ev_tupL (enc := yVer) (xs := s2.2.2) (ev_ow (i := 1) rfl)) leT roT
def T__law_case (ds : List Int) (i_w : Nat)  : ((List (OkS × Int)) × Nat) :=
  Let ((nx ds i_w (8 : Int)) : Int) fun begun1 => Let ((begun1 + (nx ds (i_w + 1) (6 : Int))) : Int) fun done2 => ([((okS "begun"), begun1), ((okS "done"), done2), ((okS "judged"), (done2 + (nx ds (i_w + 1 + 1) (8 : Int))))], i_w + 1 + 1 + 1)
theorem tv__law_case (ds : List Int) (i_w : Nat)   : Ev [.ow (Wd ds ((i_w : Nat) : Int))] f__law_case .new ((fun p_ : ((List (OkS × Int)) × Nat) => (eDc eI) p_.1) (T__law_case ds i_w )) [.ow (Wd ds (((T__law_case ds i_w ).2 : Nat) : Int))] := by
  unfold f__law_case
  refine ev_run (n := 1) (enc := (fun p_ : ((List (OkS × Int)) × Nat) => (eDc eI) p_.1)) (outs := (fun p_ : ((List (OkS × Int)) × Nat) => [.ow (Wd ds ((p_.2 : Nat) : Int)), .any, .any])) (v := T__law_case ds i_w ) ?_
  unfold b__law_case T__law_case
  show Sg [.ow (Wd ds ((i_w : Nat) : Int)), .any, .any] _ _ _
  have bx1 := nx_bd ds i_w (8 : Int) scT
  refine sg_set (d := (eI (nx ds i_w (8 : Int)))) (ev_call (tv_next ds i_w (8 : Int) (by first | exact scQ | exact scT /-1-/)) (ea_consO (i := 0) rfl (ea_cons (da := .int (8 : Int)) ev_C ea_nil)) rdT) ?_
  refine sg_gen (fun begun1 : Int => [.ow (Wd ds ((i_w + 1 : Nat) : Int)), .fz (eI begun1), .any]) (x := (nx ds i_w (8 : Int))) fun begun1 hbegun1 => ?_
  have bx2 := nx_bd ds (i_w + 1) (6 : Int) scT
  refine sg_set (d := (eI (begun1 + (nx ds (i_w + 1) (6 : Int))))) (ev_addI (x := begun1) (y := (nx ds (i_w + 1) (6 : Int))) (ev_fz (i := 1) rfl) (ev_call (tv_next ds (i_w + 1) (6 : Int) (by first | exact scQ | exact scT /-2-/)) (ea_consO (i := 0) rfl (ea_cons (da := .int (6 : Int)) ev_C ea_nil)) rdT)) ?_
  refine sg_gen (fun done2 : Int => [.ow (Wd ds ((i_w + 1 + 1 : Nat) : Int)), .fz (eI begun1), .fz (eI done2)]) (x := (begun1 + (nx ds (i_w + 1) (6 : Int)))) fun done2 hdone2 => ?_
  refine sg_last ?_
  have bx3 := nx_bd ds (i_w + 1 + 1) (8 : Int) scT
  exact sg_ret (v := ([((okS "begun"), begun1), ((okS "done"), done2), ((okS "judged"), (done2 + (nx ds (i_w + 1 + 1) (8 : Int))))], i_w + 1 + 1 + 1)) (ev_disp (kvs := ([((okS "begun"), begun1), ((okS "done"), done2), ((okS "judged"), (done2 + (nx ds (i_w + 1 + 1) (8 : Int))))] : List (OkS × Int)).map fun p => (PyData.str p.1.1, eI p.2)) (eps_cons (kk := .inr (okS "begun").1) (d := (eI begun1)) ev_C rfl (ev_fz (i := 1) rfl) (eps_cons (kk := .inr (okS "done").1) (d := (eI done2)) ev_C rfl (ev_fz (i := 2) rfl) (eps_cons (kk := .inr (okS "judged").1) (d := (eI (done2 + (nx ds (i_w + 1 + 1) (8 : Int))))) ev_C rfl (ev_addI (x := done2) (y := (nx ds (i_w + 1 + 1) (8 : Int))) (ev_fz (i := 2) rfl) (ev_call (tv_next ds (i_w + 1 + 1) (8 : Int) (by first | exact scQ | exact scT /-3-/)) (ea_consO (i := 0) rfl (ea_cons (da := .int (8 : Int)) ev_C ea_nil)) rdT)) eps_nil))) rdT (by rfl)) leT roT
def T__law_falls (versions : (List YVer)) (case : (List (OkS × Int))) (way : OkS) : Nat :=
  if (!decide (way = (okS "mildest"))) = true then (T__law_on versions (aget case way 0)) else Let ((List.range' (T__law_on versions (aget case (okS "done") 0)) (((T__law_on versions (aget case (okS "judged") 0)) + 1) - (T__law_on versions (aget case (okS "done") 0)))) : (List Nat)) fun able2 => Let ((minL (able2.map (fun (k3 : Nat) => (versions.getD k3 (none, 0)).2))) : Int) fun least6 => ((able2.filter (fun (k7 : Nat) => (decide ((versions.getD k7 (none, 0)).2 = least6)))).getD 0 0)
theorem tv__law_falls (versions : (List YVer)) (case : (List (OkS × Int))) (way : OkS) (hv : OkVs versions) (hc : OkC case) (hw : way ∈ ways) : Ev [.fz ((eT yVer) versions), .rd ((eDc eI) case), .fz (eS way)] f__law_falls .val (eN (T__law_falls versions case way)) [.fz ((eT yVer) versions), .rd ((eDc eI) case), .fz (eS way)] := by
  have hl := hv.l
  have hp := hv.p
  have hj_ := lf_lt hv (day := aget case (okS "judged") 0)
  have hd_ := lf_lt hv (day := aget case (okS "done") 0)
  have hle_ := lf_le hv hc
  unfold f__law_falls
  refine ev_run (n := 3) (enc := eN) (outs := (fun p_ : Nat => [.fz ((eT yVer) versions), .rd ((eDc eI) case), .fz (eS way), .any, .any, .any])) (v := T__law_falls versions case way) ?_
  unfold b__law_falls T__law_falls
  show Sg [.fz ((eT yVer) versions), .rd ((eDc eI) case), .fz (eS way), .any, .any, .any] _ _ _
  refine sg_if (tj_cmp (p := (!decide (way = (okS "mildest")))) (da := (eS way)) (db := (eS (okS "mildest"))) (ev_fz (i := 2) rfl) ev_C (gNe_g (gd_str (n := 0)))) (fun hc1 => ?_) (fun hc1 => ?_)
  · show Sg [.fz ((eT yVer) versions), .rd ((eDc eI) case), .fz (eS way), .any, .any, .any] _ _ _
    exact sg_ret (v := (T__law_on versions (aget case way 0))) (ev_call (tv__law_on versions (aget case way 0) (by first | exact scQ | exact hc.d | exact hc.j | exact hv | exact hc.k hw (by simpa using (by assumption : (!decide (way = okS "mildest")) = true)) | exact hab _ (by assumption) | exact fun e => hab0 (List.map_eq_nil_iff.mp e) | exact lf_pos hab0 hleast6 | exact scT /-2-/)) (ea_cons (da := ((eT yVer) versions)) (ev_fz (i := 0) rfl) (ea_cons (da := (eI (aget case way 0))) (ev_ixA 0 (enc := eI) (kvs := case) (x := way) (ev_rd (i := 1) rfl) (ev_fz (i := 2) rfl) (by first | exact scQ | exact hc.d | exact hc.j | exact hv | exact hc.k hw (by simpa using (by assumption : (!decide (way = okS "mildest")) = true)) | exact hab _ (by assumption) | exact fun e => hab0 (List.map_eq_nil_iff.mp e) | exact lf_pos hab0 hleast6 | exact scT /-1-/)) ea_nil)) rdT) leT roT
  · show Sg [.fz ((eT yVer) versions), .rd ((eDc eI) case), .fz (eS way), .any, .any, .any] _ _ _
    refine sg_skip ?_
    refine sg_set (d := ((eL eN) (List.range' (T__law_on versions (aget case (okS "done") 0)) (((T__law_on versions (aget case (okS "judged") 0)) + 1) - (T__law_on versions (aget case (okS "done") 0)))))) (ev_lRgNN (n := (T__law_on versions (aget case (okS "done") 0))) (m := ((T__law_on versions (aget case (okS "judged") 0)) + 1)) (ev_call (tv__law_on versions (aget case (okS "done") 0) (by first | exact scQ | exact hc.d | exact hc.j | exact hv | exact hc.k hw (by simpa using (by assumption : (!decide (way = okS "mildest")) = true)) | exact hab _ (by assumption) | exact fun e => hab0 (List.map_eq_nil_iff.mp e) | exact lf_pos hab0 hleast6 | exact scT /-4-/)) (ea_cons (da := ((eT yVer) versions)) (ev_fz (i := 0) rfl) (ea_cons (da := (eI (aget case (okS "done") 0))) (ev_ixA 0 (enc := eI) (kvs := case) (x := (okS "done")) (ev_rd (i := 1) rfl) ev_C (by first | exact scQ | exact hc.d | exact hc.j | exact hv | exact hc.k hw (by simpa using (by assumption : (!decide (way = okS "mildest")) = true)) | exact hab _ (by assumption) | exact fun e => hab0 (List.map_eq_nil_iff.mp e) | exact lf_pos hab0 hleast6 | exact scT /-3-/)) ea_nil)) rdT) (ev_addN (p := (T__law_on versions (aget case (okS "judged") 0))) (q := 1) (ev_call (tv__law_on versions (aget case (okS "judged") 0) (by first | exact scQ | exact hc.d | exact hc.j | exact hv | exact hc.k hw (by simpa using (by assumption : (!decide (way = okS "mildest")) = true)) | exact hab _ (by assumption) | exact fun e => hab0 (List.map_eq_nil_iff.mp e) | exact lf_pos hab0 hleast6 | exact scT /-6-/)) (ea_cons (da := ((eT yVer) versions)) (ev_fz (i := 0) rfl) (ea_cons (da := (eI (aget case (okS "judged") 0))) (ev_ixA 0 (enc := eI) (kvs := case) (x := (okS "judged")) (ev_rd (i := 1) rfl) ev_C (by first | exact scQ | exact hc.d | exact hc.j | exact hv | exact hc.k hw (by simpa using (by assumption : (!decide (way = okS "mildest")) = true)) | exact hab _ (by assumption) | exact fun e => hab0 (List.map_eq_nil_iff.mp e) | exact lf_pos hab0 hleast6 | exact scT /-5-/)) ea_nil)) rdT) ev_C) (by first | exact scQ | exact hc.d | exact hc.j | exact hv | exact hc.k hw (by simpa using (by assumption : (!decide (way = okS "mildest")) = true)) | exact hab _ (by assumption) | exact fun e => hab0 (List.map_eq_nil_iff.mp e) | exact lf_pos hab0 hleast6 | exact scT /-7-/) (by first | exact scQ | exact hc.d | exact hc.j | exact hv | exact hc.k hw (by simpa using (by assumption : (!decide (way = okS "mildest")) = true)) | exact hab _ (by assumption) | exact fun e => hab0 (List.map_eq_nil_iff.mp e) | exact lf_pos hab0 hleast6 | exact scT /-8-/)) ?_
    refine sg_gen (fun able2 : (List Nat) => [.fz ((eT yVer) versions), .rd ((eDc eI) case), .fz (eS way), .ow ((eL eN) able2), .any, .any]) (x := (List.range' (T__law_on versions (aget case (okS "done") 0)) (((T__law_on versions (aget case (okS "judged") 0)) + 1) - (T__law_on versions (aget case (okS "done") 0))))) fun able2 hable2 => ?_
    have hab : ∀ k ∈ able2, k < versions.length := fun k hk => by rw [hable2] at hk; have := List.mem_range'_1.mp hk; omega
    have habl : able2.length ≤ 11 := by rw [hable2, List.length_range']; omega
    have hab0 : able2 ≠ [] := fun e => by rw [hable2] at e; have := congrArg List.length e; rw [List.length_range', List.length_nil] at this; omega
    refine sg_set (d := (eI (minL (able2.map (fun (k3 : Nat) => (versions.getD k3 (none, 0)).2))))) (ev_minL (ns := (able2.map (fun (k3 : Nat) => (versions.getD k3 (none, 0)).2))) (ev_lcY (enc := eN) (encB := eI) (xs := able2) (fe := (fun (k3 : Nat) => (versions.getD k3 (none, 0)).2)) (ew_ow (d := ((eL eN) able2)) (ev_ow (i := 3) rfl) rfl rfl) (by first | exact scQ | exact hc.d | exact hc.j | exact hv | exact hc.k hw (by simpa using (by assumption : (!decide (way = okS "mildest")) = true)) | exact hab _ (by assumption) | exact fun e => hab0 (List.map_eq_nil_iff.mp e) | exact lf_pos hab0 hleast6 | exact scT /-10-/) (fun k3 hx4 => ⟨_, tg_n, _, _, (ev_ixC (d := (yVer (versions.getD k3 (none, 0)))) (d' := (eI ((versions.getD k3 (none, 0)).2))) (ev_ixTN (none, 0) (enc := yVer) (xs := versions) (p := k3) (ev_fz (i := 0) rfl) (ev_fz (i := 5) rfl) (by first | exact scQ | exact hc.d | exact hc.j | exact hv | exact hc.k hw (by simpa using (by assumption : (!decide (way = okS "mildest")) = true)) | exact hab _ (by assumption) | exact fun e => hab0 (List.map_eq_nil_iff.mp e) | exact lf_pos hab0 hleast6 | exact scT /-9-/)) rfl), leT⟩)) (by first | exact scQ | exact hc.d | exact hc.j | exact hv | exact hc.k hw (by simpa using (by assumption : (!decide (way = okS "mildest")) = true)) | exact hab _ (by assumption) | exact fun e => hab0 (List.map_eq_nil_iff.mp e) | exact lf_pos hab0 hleast6 | exact scT /-11-/)) ?_
    refine sg_gen (fun least6 : Int => [.fz ((eT yVer) versions), .rd ((eDc eI) case), .fz (eS way), .ow ((eL eN) able2), .fz (eI least6), .any]) (x := (minL (able2.map (fun (k3 : Nat) => (versions.getD k3 (none, 0)).2)))) fun least6 hleast6 => ?_
    refine sg_last ?_
    exact sg_ret (v := ((able2.filter (fun (k7 : Nat) => (decide ((versions.getD k7 (none, 0)).2 = least6)))).getD 0 0)) (ev_ixLN 0 (enc := eN) (xs := (able2.filter (fun (k7 : Nat) => (decide ((versions.getD k7 (none, 0)).2 = least6))))) (p := 0) (Ev.eq (ev_lc (enc := eN) (encB := eN) (xs := able2) (p := (fun (k7 : Nat) => (decide ((versions.getD k7 (none, 0)).2 = least6)))) (fe := (fun (k7 : Nat) => k7)) (ew_ow (d := ((eL eN) able2)) (ev_ow (i := 3) rfl) rfl rfl) (by first | exact scQ | exact hc.d | exact hc.j | exact hv | exact hc.k hw (by simpa using (by assumption : (!decide (way = okS "mildest")) = true)) | exact hab _ (by assumption) | exact fun e => hab0 (List.map_eq_nil_iff.mp e) | exact lf_pos hab0 hleast6 | exact scT /-13-/) (fun k7 hx8 => ⟨_, tg_n, (tj_cmp (p := (decide ((versions.getD k7 (none, 0)).2 = least6))) (da := (eI ((versions.getD k7 (none, 0)).2))) (db := (eI least6)) (ev_ixC (d := (yVer (versions.getD k7 (none, 0)))) (d' := (eI ((versions.getD k7 (none, 0)).2))) (ev_ixTN (none, 0) (enc := yVer) (xs := versions) (p := k7) (ev_fz (i := 0) rfl) (ev_fz (i := 5) rfl) (by first | exact scQ | exact hc.d | exact hc.j | exact hv | exact hc.k hw (by simpa using (by assumption : (!decide (way = okS "mildest")) = true)) | exact hab _ (by assumption) | exact fun e => hab0 (List.map_eq_nil_iff.mp e) | exact lf_pos hab0 hleast6 | exact scT /-12-/)) rfl) (ev_fz (i := 4) rfl) gEq_ii), (fun _ => leT), fun hp9 => ⟨_, _, (ev_fz (i := 5) rfl), leT⟩⟩)) (map_id_e _ _)) ev_C (by first | exact scQ | exact hc.d | exact hc.j | exact hv | exact hc.k hw (by simpa using (by assumption : (!decide (way = okS "mildest")) = true)) | exact hab _ (by assumption) | exact fun e => hab0 (List.map_eq_nil_iff.mp e) | exact lf_pos hab0 hleast6 | exact scT /-14-/)) leT roT
theorem falls_eq {versions : List YVer} (hv : OkVs versions) {case : List (OkS × Int)} (hc : OkC case) {way : OkS} : T_falls_under versions case way = T__law_falls versions case way := by
  unfold T_falls_under T__law_falls Let
  by_cases h : way = okS "mildest"
  · rw [if_pos (decide_eq_true h), if_neg (by rw [decide_eq_true h]; decide)]
    rw [mild_eq (vf_le hv hc) rfl, von_eq hv, von_eq hv]
  · rw [if_neg (fun z => h (of_decide_eq_true z)), if_pos (by rw [decide_eq_false h]; rfl)]
    exact von_eq hv _
theorem nxb {ds : List Int} {i : Nat} {m : Int} (h : 0 < m) : 0 ≤ nx ds i m ∧ nx ds i m < m := nx_bd ds i m h
/-- versions so far -/
structure VI (day : Int) (vs : List YVer) (k : Nat) : Prop where
  l : vs.length = k + 1
  h0 : (vs.getD 0 (none, 0)).1.isNone = true
  h1 : ∀ j, 0 < j → j < vs.length → (vs.getD j (none, 0)).1.isNone = false ∧ (vs.getD j (none, 0)).1.getD 0 ≤ day
  srt : ∀ a b, 0 < a → a ≤ b → b < vs.length → (vs.getD a (none, 0)).1.getD 0 ≤ (vs.getD b (none, 0)).1.getD 0
theorem getD_l {α : Type} {xs ys : List α} {j : Nat} {d : α} (h : j < xs.length) : (xs ++ ys).getD j d = xs.getD j d := by
  rw [List.getD_eq_getElem?_getD, List.getD_eq_getElem?_getD, List.getElem?_append_left h]
theorem getD_e {α : Type} {xs : List α} {y : α} {d : α} : (xs ++ [y]).getD xs.length d = y := by
  rw [List.getD_eq_getElem?_getD, List.getElem?_append_right (Nat.le_refl _), Nat.sub_self]; rfl
theorem VI.step {day day' : Int} {vs : List YVer} {k : Nat} (h : VI day vs k) (hd : day ≤ day') (x : Int) : VI day' (vs ++ [(some day', x)]) (k + 1) := by
  have hl := h.l
  have e : (vs ++ [((some day', x) : YVer)]).length = vs.length + 1 := by simp
  have key : ∀ j, 0 < j → j < vs.length + 1 → ((vs ++ [((some day', x) : YVer)]).getD j (none, 0)).1.isNone = false ∧ ((vs ++ [((some day', x) : YVer)]).getD j (none, 0)).1.getD 0 ≤ day' := fun j h0 h1 => by
    by_cases q : j < vs.length
    · rw [getD_l q]; exact ⟨(h.h1 j h0 q).1, Int.le_trans (h.h1 j h0 q).2 hd⟩
    · have : j = vs.length := by omega
      subst this
      rw [getD_e]; exact ⟨rfl, Int.le_refl _⟩
  refine ⟨by rw [e, hl], ?_, fun j h0 h1 => key j h0 (by omega), fun a b h0 h1 h2 => ?_⟩
  · rw [getD_l (by omega)]; exact h.h0
  · by_cases q : b < vs.length
    · rw [getD_l q, getD_l (by omega)]; exact h.srt a b h0 h1 q
    · have : b = vs.length := by omega
      subst this
      rw [getD_e]
      exact (key a h0 (by omega)).2
theorem lvs_ok {ds : List Int} {i : Nat} : OkVs (T__law_versions ds i).1 := by
  have key : ∀ (L : List Nat) (s : Int × Nat × List YVer) (k : Nat), VI s.1 s.2.2 k → ∀ t, t = L.foldl (fun (s2 : (Int × Nat × (List YVer))) (k4 : Nat) => Let ((s2.1 + ((1 : Int) + (nx ds s2.2.1 (4 : Int)))) : Int) fun day7 => Let ((s2.2.2 ++ [((some day7), (nx ds (s2.2.1 + 1) (5 : Int)))]) : (List YVer)) fun found8 => (day7, s2.2.1 + 1 + 1, found8)) s → VI t.1 t.2.2 (k + L.length) := fun L => by
    induction L with
    | nil => intro s k h t e; rw [e]; exact h
    | cons x L ih =>
      intro s k h t e
      rw [List.foldl_cons] at e
      have := ih _ (k + 1) (h.step (day' := s.1 + (1 + nx ds s.2.1 4)) (by have := nxb (ds := ds) (i := s.2.1) (m := 4) (by decide); omega) (nx ds (s.2.1 + 1) 5)) t e
      rw [List.length_cons, show k + (L.length + 1) = k + 1 + L.length by omega]; exact this
  have h0 : VI 0 ([(none, (nx ds i (5 : Int)))] : (List YVer)) 0 := ⟨rfl, rfl, fun j a b => by simp at b; omega, fun a b c d e => by simp at e; omega⟩
  have := key (List.range (nx ds (i + 1) (5 : Int)).toNat) (0, i + 1 + 1, [(none, (nx ds i (5 : Int)))]) 0 h0 _ rfl
  rw [List.length_range] at this
  have hb := nxb (ds := ds) (i := i + 1) (m := 5) (by decide)
  have hl := this.l
  unfold T__law_versions Let
  dsimp only
  unfold Let at this hl
  dsimp only at this hl
  exact ⟨by omega, by omega, this.h0, fun k a b => (this.h1 k a b).1, fun a b c d e => this.srt a b c d e⟩
theorem lcase_ok {ds : List Int} {i : Nat} : OkC (T__law_case ds i).1 := by
  have hb := nxb (ds := ds) (i := i + 1 + 1) (m := 8) (by decide)
  unfold T__law_case Let
  dsimp only
  refine ⟨by simp [akeys], by simp [akeys], by simp [akeys], ?_⟩
  have e1 : ∀ x y z : Int, aget [(okS "begun", x), (okS "done", y), (okS "judged", z)] (okS "done") 0 = y := fun x y z => rfl
  have e2 : ∀ x y z : Int, aget [(okS "begun", x), (okS "done", y), (okS "judged", z)] (okS "judged") 0 = z := fun x y z => rfl
  rw [e1, e2]
  omega
theorem lcases_ok {ds : List Int} {s : Nat} {L : List Nat} : ∀ c ∈ (mapS (fun (i6 : Nat) (k7 : Nat) => ((T__law_case ds i6 ).1, (T__law_case ds i6 ).2)) s L).1, OkC c := mapS_all OkC (fun s _ => lcase_ok) _ _
theorem lcases_len {ds : List Int} {s i : Nat} : (mapS (fun (i6 : Nat) (k7 : Nat) => ((T__law_case ds i6 ).1, (T__law_case ds i6 ).2)) s (List.range (nx ds i (5 : Int)).toNat)).1.length ≤ 4 := by
  rw [mapS_len, List.length_range]
  have := nxb (ds := ds) (i := i) (m := 5) (by decide)
  omega
theorem lrules_ok {ds : List Int} {s i : Nat} {W : List OkS} (hw : W = ways) {m : Nat → Int} : OkRu (mapS (fun (i27 : Nat) (k28 : Nat) => (((nx ds i27 (m 0)), (pkT ds (i27 + 1) W dS0)), i27 + 1 + 1)) s (List.range (nx ds i (4 : Int)).toNat)).1 := by
  refine ⟨?_, mapS_all (fun r : YRul => r.2 ∈ ways) (fun s _ => ?_) _ _⟩
  · rw [mapS_len, List.length_range]
    have := nxb (ds := ds) (i := i) (m := 4) (by decide)
    omega
  · show pkT ds (s + 1) W dS0 ∈ ways
    rw [hw]
    exact pkT_mem (by unfold ways; simp)
theorem same_len {v : List YVer} {c : List (OkS × Int)} : (T_same_ways v c).length ≤ 4 := by
  unfold T_same_ways Let
  exact List.length_filter_le _ _
theorem same_eq {v : List YVer} {c : List (OkS × Int)} (hv : OkVs v) (hc : OkC c) {W : List OkS} (hw : W = ways) : T_same_ways v c = W.filter (fun (way23 : OkS) => (decide ((T__law_falls v c way23) = (T__law_falls v c (okS "done"))))) := by
  rw [hw]
  unfold T_same_ways Let
  refine List.filter_congr fun x _ => ?_
  rw [falls_eq hv hc, falls_eq hv hc]
theorem last_fold {α : Type} {q : α → Bool} {f : α → OkS} : ∀ (L : List α) (d : OkS), (d :: (L.filter q).map f).getLastD dS0 = L.foldl (fun s x => if q x = true then f x else s) d
  | [], d => rfl
  | x :: L, d => by
    rw [List.filter_cons, List.foldl_cons]
    by_cases h : q x = true
    · rw [if_pos h, if_pos h, List.map_cons, ← last_fold L (f x)]; rfl
    · rw [if_neg h, if_neg h, ← last_fold L d]
theorem br_eq {v : List YVer} {c : List (OkS × Int)} {rules : List YRul} (hv : OkVs v) (hc : OkC c) (hr : OkRu rules) {s : OkS} (hq : s = rules.foldl (fun (s33 : OkS) (x35 : YRul) => if (decide (x35.1 ≤ (((T__law_on v (aget c (okS "judged") 0)) : Nat) : Int))) = true then x35.2 else s33) (okS "done")) : T_bridged v c rules = T__law_falls v c s ∧ s ∈ ways := by
  have h1 := last_fold (q := fun (place2 : YRul) => (decide (place2.1 ≤ ((T__law_on v (aget c (okS "judged") 0) : Nat) : Int)))) (f := fun (place2 : YRul) => place2.2) rules (okS "done")
  have h2 := able_mem hr (q := fun (place2 : YRul) => (decide (place2.1 ≤ ((T__law_on v (aget c (okS "judged") 0) : Nat) : Int)))) rfl
  have h3 : ([(okS "done")] ++ ((rules.filter fun (place2 : YRul) => (decide (place2.1 ≤ ((T__law_on v (aget c (okS "judged") 0) : Nat) : Int)))).map (fun (place2 : YRul) => place2.2))).getLastD dS0 = s := by rw [hq]; exact h1
  refine ⟨?_, by rw [← h3]; exact h2.1⟩
  unfold T_bridged Let
  rw [von_eq hv]
  dsimp only
  rw [h3]
  exact falls_eq hv hc
theorem fold_fltN {q : Nat → Bool} : ∀ (L acc : List Nat), L.foldl (fun s p => if q p = true then s ++ [p] else s) acc = acc ++ L.filter q
  | [], acc => by simp
  | x :: L, acc => by
    rw [List.foldl_cons, fold_fltN L, List.filter_cons]
    cases q x <;> simp
theorem worse_eq {v : List YVer} {cs : List (List (OkS × Int))} {way : OkS} (hv : OkVs v) (hcs : ∀ c ∈ cs, OkC c) : T_worse_off v cs way = (List.range cs.length).filter (fun (k45 : Nat) => (decide ((v.getD (T__law_falls v (cs.getD k45 []) (okS "mildest")) (none, 0)).2 < (v.getD (T__law_falls v (cs.getD k45 []) way) (none, 0)).2))) := by
  unfold T_worse_off Let
  refine (fold_fltN _ []).trans ?_
  rw [List.nil_append]
  refine List.filter_congr fun k hk => ?_
  have hc := hcs _ (getD_mem' [] (List.mem_range.mp hk))
  rw [falls_eq hv hc, falls_eq hv hc]
theorem worse_len {v : List YVer} {cs : List (List (OkS × Int))} {way : OkS} (hv : OkVs v) (hcs : ∀ c ∈ cs, OkC c) (hl : cs.length ≤ 4) : (T_worse_off v cs way).length ≤ 100000 := by
  rw [worse_eq hv hcs]
  refine Nat.le_trans (List.length_filter_le _ _) ?_
  rw [List.length_range]; omega
theorem lfl_lt {v : List YVer} (hv : OkVs v) {c : List (OkS × Int)} (hc : OkC c) {way : OkS} : T__law_falls v c way < v.length := by rw [← falls_eq hv hc]; exact falls_lt hv hc
theorem law_tv (script : List Int) (hs : script.length ≤ 63) : ∃ E_, Ev [.fz (eL eI script)] f_law .val (eB true) E_ := by
  unfold f_law
  refine ⟨_, ev_run (n := 1) (enc := eB) (outs := fun _ => [.any, .any, .any, .any, .any, .any, .any, .any, .any, .any, .any, .any, .any, .any, .any]) (v := true) ?_⟩
  unfold b_law
  show Sg [.fz ((eL eI) script), .any, .any, .any, .any, .any, .any, .any, .any, .any, .any, .any, .any, .any, .any] _ _ _
  refine sg_w (script := script) hs (by decide) rfl ltT fun ds => ?_
  show Sg [.fz ((eL eI) script), .ow (Wd ds ((0 : Nat) : Int)), .any, .any, .any, .any, .any, .any, .any, .any, .any, .any, .any, .any, .any] _ _ _
  refine sg_forX (enc := eN) (xs := (List.range 9)) (fun (s1 : (Nat)) => [.fz ((eL eI) script), .ow (Wd ds ((s1 : Nat) : Int)), .any, .any, .any, .any, .any, .any, .any, .any, .any, .any, .any, .any, .any]) 0 (fun _ _ => True) (ew_rgN (n := 9) ev_C (by first | exact scQ | exact hv | exact hc | exact hc.j | exact hcs | exact hr | exact hcl | exact hwm | exact hwn | exact hbr.2 | (rw [← hws]; assumption) | (unfold ways; simp) | exact hcs _ (by assumption) | exact hcs _ (getD_mem' [] (List.mem_range.mp (by assumption))) | (rw [List.length_range]; omega) | exact lf_lt hv | exact worse_len hv hcs hcl | exact List.mem_range.mp (by assumption) | exact lfl_lt hv (hcs _ (getD_mem' [] (List.mem_range.mp (by assumption)))) /-1-/)) leT trivial (fun k2 turn3 s1 hk4 hI5 => ⟨_, tg_n, ?_⟩) (fun s1 hI5 => ?_)
  · show Sg [.fz ((eL eI) script), .ow (Wd ds ((s1 : Nat) : Int)), .fz (eN turn3), .any, .any, .any, .any, .any, .any, .any, .any, .any, .any, .any, .any] _ _ _
    have hlthk4 := lt_of_get hk4
    have hmhk4 := List.mem_of_getElem? hk4
    have bx2 := nx_bd ds ((T__law_versions ds s1 ).2) (5 : Int) scT
    refine sg_par (ea_cons (da := ((eT yVer) ((T__law_versions ds s1 ).1))) (ev_call (tv__law_versions ds s1  ) (ea_consO (i := 1) rfl ea_nil) rdT) (ea_cons (da := ((eL (eDc eI)) ((mapS (fun (i6 : Nat) (k7 : Nat) => ((T__law_case ds i6 ).1, (T__law_case ds i6 ).2)) ((T__law_versions ds s1 ).2 + 1) (List.range (nx ds ((T__law_versions ds s1 ).2) (5 : Int)).toNat)).1))) (ev_lcS (enc := eN) (encB := (eDc eI)) (Eσ := fun (i6 : Nat) => [.fz ((eL eI) script), .ow (Wd ds ((i6 : Nat) : Int)), .fz (eN turn3), .any, .any, .any, .any, .any, .any, .any, .any, .any, .any, .any, .any]) (s0 := (T__law_versions ds s1 ).2 + 1) (xs := (List.range (nx ds ((T__law_versions ds s1 ).2) (5 : Int)).toNat)) (fe := (fun (i6 : Nat) (k7 : Nat) => ((T__law_case ds i6 ).1, (T__law_case ds i6 ).2))) (ew_rgI (x := (nx ds ((T__law_versions ds s1 ).2) (5 : Int))) (ev_call (tv_next ds ((T__law_versions ds s1 ).2) (5 : Int) (by first | exact scQ | exact hv | exact hc | exact hc.j | exact hcs | exact hr | exact hcl | exact hwm | exact hwn | exact hbr.2 | (rw [← hws]; assumption) | (unfold ways; simp) | exact hcs _ (by assumption) | exact hcs _ (getD_mem' [] (List.mem_range.mp (by assumption))) | (rw [List.length_range]; omega) | exact lf_lt hv | exact worse_len hv hcs hcl | exact List.mem_range.mp (by assumption) | exact lfl_lt hv (hcs _ (getD_mem' [] (List.mem_range.mp (by assumption)))) /-2-/)) (ea_consO (i := 1) rfl (ea_cons (da := .int (5 : Int)) ev_C ea_nil)) rdT) (by first | exact scQ | exact hv | exact hc | exact hc.j | exact hcs | exact hr | exact hcl | exact hwm | exact hwn | exact hbr.2 | (rw [← hws]; assumption) | (unfold ways; simp) | exact hcs _ (by assumption) | exact hcs _ (getD_mem' [] (List.mem_range.mp (by assumption))) | (rw [List.length_range]; omega) | exact lf_lt hv | exact worse_len hv hcs hcl | exact List.mem_range.mp (by assumption) | exact lfl_lt hv (hcs _ (getD_mem' [] (List.mem_range.mp (by assumption)))) /-3-/) (by first | exact scQ | exact hv | exact hc | exact hc.j | exact hcs | exact hr | exact hcl | exact hwm | exact hwn | exact hbr.2 | (rw [← hws]; assumption) | (unfold ways; simp) | exact hcs _ (by assumption) | exact hcs _ (getD_mem' [] (List.mem_range.mp (by assumption))) | (rw [List.length_range]; omega) | exact lf_lt hv | exact worse_len hv hcs hcl | exact List.mem_range.mp (by assumption) | exact lfl_lt hv (hcs _ (getD_mem' [] (List.mem_range.mp (by assumption)))) /-4-/)) (by first | exact scQ | exact hv | exact hc | exact hc.j | exact hcs | exact hr | exact hcl | exact hwm | exact hwn | exact hbr.2 | (rw [← hws]; assumption) | (unfold ways; simp) | exact hcs _ (by assumption) | exact hcs _ (getD_mem' [] (List.mem_range.mp (by assumption))) | (rw [List.length_range]; omega) | exact lf_lt hv | exact worse_len hv hcs hcl | exact List.mem_range.mp (by assumption) | exact lfl_lt hv (hcs _ (getD_mem' [] (List.mem_range.mp (by assumption)))) /-5-/) (by intro _ _; rfl) (by intro _ _ i_ h_; simp at h_; subst h_; rfl) (fun k7 hx8 i6 => ⟨_, tg_n, _, _, (ev_call (tv__law_case ds i6  ) (ea_consO (i := 1) rfl ea_nil) rdT), leT⟩)) ea_nil)) rdT ?_
    refine sg_gen0 (fun versions10 : (List YVer) => [.fz ((eL eI) script), .ow (Wd ds (((mapS (fun (i6 : Nat) (k7 : Nat) => ((T__law_case ds i6 ).1, (T__law_case ds i6 ).2)) ((T__law_versions ds s1 ).2 + 1) (List.range (nx ds ((T__law_versions ds s1 ).2) (5 : Int)).toNat)).2 : Nat) : Int)), .fz (eN turn3), .fz ((eT yVer) versions10), .ow ((eL (eDc eI)) ((mapS (fun (i6 : Nat) (k7 : Nat) => ((T__law_case ds i6 ).1, (T__law_case ds i6 ).2)) ((T__law_versions ds s1 ).2 + 1) (List.range (nx ds ((T__law_versions ds s1 ).2) (5 : Int)).toNat)).1)), .any, .any, .any, .any, .any, .any, .any, .any, .any, .any]) (x := (T__law_versions ds s1 ).1) fun versions10 hversions10 => ?_
    have hv : OkVs versions10 := by rw [hversions10]; exact lvs_ok
    have hl := hv.l
    have hp := hv.p
    refine sg_gen0 (fun cases11 : (List (List (OkS × Int))) => [.fz ((eL eI) script), .ow (Wd ds (((mapS (fun (i6 : Nat) (k7 : Nat) => ((T__law_case ds i6 ).1, (T__law_case ds i6 ).2)) ((T__law_versions ds s1 ).2 + 1) (List.range (nx ds ((T__law_versions ds s1 ).2) (5 : Int)).toNat)).2 : Nat) : Int)), .fz (eN turn3), .fz ((eT yVer) versions10), .ow ((eL (eDc eI)) cases11), .any, .any, .any, .any, .any, .any, .any, .any, .any, .any]) (x := (mapS (fun (i6 : Nat) (k7 : Nat) => ((T__law_case ds i6 ).1, (T__law_case ds i6 ).2)) ((T__law_versions ds s1 ).2 + 1) (List.range (nx ds ((T__law_versions ds s1 ).2) (5 : Int)).toNat)).1) fun cases11 hcases11 => ?_
    have hcs : ∀ c ∈ cases11, OkC c := by rw [hcases11]; exact lcases_ok
    have hcl : cases11.length ≤ 4 := by rw [hcases11]; exact lcases_len
    refine sg_le (E1 := [.fz ((eL eI) script), .ow (Wd ds (((mapS (fun (i6 : Nat) (k7 : Nat) => ((T__law_case ds i6 ).1, (T__law_case ds i6 ).2)) ((T__law_versions ds s1 ).2 + 1) (List.range (nx ds ((T__law_versions ds s1 ).2) (5 : Int)).toNat)).2 : Nat) : Int)), .fz (eN turn3), .fz ((eT yVer) versions10), .rd ((eL (eDc eI)) cases11), .any, .any, .any, .any, .any, .any, .any, .any, .any, .any]) leT ?_
    refine sg_gen0 (fun i12 : Nat => [.fz ((eL eI) script), .ow (Wd ds ((i12 : Nat) : Int)), .fz (eN turn3), .fz ((eT yVer) versions10), .rd ((eL (eDc eI)) cases11), .any, .any, .any, .any, .any, .any, .any, .any, .any, .any]) (x := (mapS (fun (i6 : Nat) (k7 : Nat) => ((T__law_case ds i6 ).1, (T__law_case ds i6 ).2)) ((T__law_versions ds s1 ).2 + 1) (List.range (nx ds ((T__law_versions ds s1 ).2) (5 : Int)).toNat)).2) fun i12 hi12 => ?_
    have bx6 := nx_bd ds i12 (30 : Int) scT
    refine sg_set (d := (eI ((nx ds i12 (30 : Int)) - (2 : Int)))) (ev_subI (x := (nx ds i12 (30 : Int))) (y := (2 : Int)) (ev_call (tv_next ds i12 (30 : Int) (by first | exact scQ | exact hv | exact hc | exact hc.j | exact hcs | exact hr | exact hcl | exact hwm | exact hwn | exact hbr.2 | (rw [← hws]; assumption) | (unfold ways; simp) | exact hcs _ (by assumption) | exact hcs _ (getD_mem' [] (List.mem_range.mp (by assumption))) | (rw [List.length_range]; omega) | exact lf_lt hv | exact worse_len hv hcs hcl | exact List.mem_range.mp (by assumption) | exact lfl_lt hv (hcs _ (getD_mem' [] (List.mem_range.mp (by assumption)))) /-6-/)) (ea_consO (i := 1) rfl (ea_cons (da := .int (30 : Int)) ev_C ea_nil)) rdT) ev_C) ?_
    refine sg_gen0 (fun day13 : Int => [.fz ((eL eI) script), .ow (Wd ds ((i12 + 1 : Nat) : Int)), .fz (eN turn3), .fz ((eT yVer) versions10), .rd ((eL (eDc eI)) cases11), .any, .fz (eI day13), .any, .any, .any, .any, .any, .any, .any, .any]) (x := ((nx ds i12 (30 : Int)) - (2 : Int))) fun day13 hday13 => ?_
    refine sg_ifF (p := (!true)) (tj_not (p := true) (tj_b (p := true) (ev_call (tv__law_alike eN 6 (T_version_on versions10 day13) (T__law_on versions10 day13) okv_n (by exact von_eq hv _ /-9-/)) (ea_cons (da := (eN (T_version_on versions10 day13))) (ev_call (tv_version_on versions10 day13 (by first | exact scQ | exact hv | exact hc | exact hc.j | exact hcs | exact hr | exact hcl | exact hwm | exact hwn | exact hbr.2 | (rw [← hws]; assumption) | (unfold ways; simp) | exact hcs _ (by assumption) | exact hcs _ (getD_mem' [] (List.mem_range.mp (by assumption))) | (rw [List.length_range]; omega) | exact lf_lt hv | exact worse_len hv hcs hcl | exact List.mem_range.mp (by assumption) | exact lfl_lt hv (hcs _ (getD_mem' [] (List.mem_range.mp (by assumption)))) /-8-/)) (ea_cons (da := ((eT yVer) versions10)) (ev_fz (i := 3) rfl) (ea_cons (da := (eI day13)) (ev_fz (i := 6) rfl) ea_nil)) rdT) (ea_cons (da := (eN (T__law_on versions10 day13))) (ev_call (tv__law_on versions10 day13 (by first | exact scQ | exact hv | exact hc | exact hc.j | exact hcs | exact hr | exact hcl | exact hwm | exact hwn | exact hbr.2 | (rw [← hws]; assumption) | (unfold ways; simp) | exact hcs _ (by assumption) | exact hcs _ (getD_mem' [] (List.mem_range.mp (by assumption))) | (rw [List.length_range]; omega) | exact lf_lt hv | exact worse_len hv hcs hcl | exact List.mem_range.mp (by assumption) | exact lfl_lt hv (hcs _ (getD_mem' [] (List.mem_range.mp (by assumption)))) /-7-/)) (ea_cons (da := ((eT yVer) versions10)) (ev_fz (i := 3) rfl) (ea_cons (da := (eI day13)) (ev_fz (i := 6) rfl) ea_nil)) rdT) ea_nil)) rdT))) (by exact lawpT /-10-/) (sg_skip ?_)
    show Sg [.fz ((eL eI) script), .ow (Wd ds ((i12 + 1 : Nat) : Int)), .fz (eN turn3), .fz ((eT yVer) versions10), .rd ((eL (eDc eI)) cases11), .any, .fz (eI day13), .any, .any, .any, .any, .any, .any, .any, .any] _ _ _
    refine sg_set (d := ((eL eS) ([(okS "begun"), (okS "done"), (okS "judged"), (okS "mildest")] : (List OkS)))) (ev_lst (ea_cons (da := (eS (okS "begun"))) ev_C (ea_cons (da := (eS (okS "done"))) ev_C (ea_cons (da := (eS (okS "judged"))) ev_C (ea_cons (da := (eS (okS "mildest"))) ev_C ea_nil))))) ?_
    refine sg_gen0 (fun ways14 : (List OkS) => [.fz ((eL eI) script), .ow (Wd ds ((i12 + 1 : Nat) : Int)), .fz (eN turn3), .fz ((eT yVer) versions10), .rd ((eL (eDc eI)) cases11), .any, .fz (eI day13), .ow ((eL eS) ways14), .any, .any, .any, .any, .any, .any, .any]) (x := ([(okS "begun"), (okS "done"), (okS "judged"), (okS "mildest")] : (List OkS))) fun ways14 hways14 => ?_
    have hws : ways14 = ways := hways14
    have hwl : ways14.length ≤ 4 := by rw [hways14]; simp
    have hwn : ways14 ≠ [] := by rw [hways14]; simp
    refine sg_le (E1 := [.fz ((eL eI) script), .ow (Wd ds ((i12 + 1 : Nat) : Int)), .fz (eN turn3), .fz ((eT yVer) versions10), .rd ((eL (eDc eI)) cases11), .any, .fz (eI day13), .rd ((eL eS) ways14), .any, .any, .any, .any, .any, .any, .any]) leT ?_
    refine sg_forX (enc := (eDc eI)) (xs := cases11) (fun (s15 : (Nat)) => [.fz ((eL eI) script), .ow (Wd ds ((s15 : Nat) : Int)), .fz (eN turn3), .fz ((eT yVer) versions10), .rd ((eL (eDc eI)) cases11), .any, .fz (eI day13), .rd ((eL eS) ways14), .any, .any, .any, .any, .any, .any, .any]) (i12 + 1) (fun (k : Nat) (s15 : (Nat)) => True) (ew_nam (d := ((eL (eDc eI)) cases11)) (ev_rd (i := 4) rfl) rfl) leT (by trivial) (fun k16 case17 s15 hk18 hI19 => ⟨_, tg_n, ?_⟩) (fun s15 hI19 => ?_)
    · show Sg [.fz ((eL eI) script), .ow (Wd ds ((s15 : Nat) : Int)), .fz (eN turn3), .fz ((eT yVer) versions10), .rd ((eL (eDc eI)) cases11), .any, .fz (eI day13), .rd ((eL eS) ways14), .fz ((eDc eI) case17), .any, .any, .any, .any, .any, .any] _ _ _
      have hlthk18 := lt_of_get hk18
      have hmhk18 := List.mem_of_getElem? hk18
      have hc := hcs _ hmhk18
      refine sg_ifF (p := (!decide ((ways14.filter (fun (way20 : OkS) => (!true))) = ([] : (List OkS))))) (tj_cmp (p := (!decide ((ways14.filter (fun (way20 : OkS) => (!true))) = ([] : (List OkS))))) (da := ((eL eS) (ways14.filter (fun (way20 : OkS) => (!true))))) (db := ((eL eS) ([] : (List OkS)))) (Ev.eq (ev_lc (enc := eS) (encB := eS) (xs := ways14) (p := (fun (way20 : OkS) => (!true))) (fe := (fun (way20 : OkS) => way20)) (ew_nam (d := ((eL eS) ways14)) (ev_rd (i := 7) rfl) rfl) (by first | exact scQ | exact hv | exact hc | exact hc.j | exact hcs | exact hr | exact hcl | exact hwm | exact hwn | exact hbr.2 | (rw [← hws]; assumption) | (unfold ways; simp) | exact hcs _ (by assumption) | exact hcs _ (getD_mem' [] (List.mem_range.mp (by assumption))) | (rw [List.length_range]; omega) | exact lf_lt hv | exact worse_len hv hcs hcl | exact List.mem_range.mp (by assumption) | exact lfl_lt hv (hcs _ (getD_mem' [] (List.mem_range.mp (by assumption)))) /-18-/) (fun way20 hx21 => ⟨_, tg_n, (tj_not (p := true) (tj_b (p := true) (ev_call (tv__law_alike eN 6 (T_falls_under versions10 case17 way20) (T__law_falls versions10 case17 way20) okv_n (by exact falls_eq hv hc /-17-/)) (ea_cons (da := (eN (T_falls_under versions10 case17 way20))) (ev_call (tv_falls_under versions10 case17 way20 (by first | exact scQ | exact hv | exact hc | exact hc.j | exact hcs | exact hr | exact hcl | exact hwm | exact hwn | exact hbr.2 | (rw [← hws]; assumption) | (unfold ways; simp) | exact hcs _ (by assumption) | exact hcs _ (getD_mem' [] (List.mem_range.mp (by assumption))) | (rw [List.length_range]; omega) | exact lf_lt hv | exact worse_len hv hcs hcl | exact List.mem_range.mp (by assumption) | exact lfl_lt hv (hcs _ (getD_mem' [] (List.mem_range.mp (by assumption)))) /-14-/) (by first | exact scQ | exact hv | exact hc | exact hc.j | exact hcs | exact hr | exact hcl | exact hwm | exact hwn | exact hbr.2 | (rw [← hws]; assumption) | (unfold ways; simp) | exact hcs _ (by assumption) | exact hcs _ (getD_mem' [] (List.mem_range.mp (by assumption))) | (rw [List.length_range]; omega) | exact lf_lt hv | exact worse_len hv hcs hcl | exact List.mem_range.mp (by assumption) | exact lfl_lt hv (hcs _ (getD_mem' [] (List.mem_range.mp (by assumption)))) /-15-/) (by first | exact scQ | exact hv | exact hc | exact hc.j | exact hcs | exact hr | exact hcl | exact hwm | exact hwn | exact hbr.2 | (rw [← hws]; assumption) | (unfold ways; simp) | exact hcs _ (by assumption) | exact hcs _ (getD_mem' [] (List.mem_range.mp (by assumption))) | (rw [List.length_range]; omega) | exact lf_lt hv | exact worse_len hv hcs hcl | exact List.mem_range.mp (by assumption) | exact lfl_lt hv (hcs _ (getD_mem' [] (List.mem_range.mp (by assumption)))) /-16-/)) (ea_cons (da := ((eT yVer) versions10)) (ev_fz (i := 3) rfl) (ea_cons (da := ((eDc eI) case17)) (ev_fz (i := 8) rfl) (ea_cons (da := (eS way20)) (ev_fz (i := 9) rfl) ea_nil))) rdT) (ea_cons (da := (eN (T__law_falls versions10 case17 way20))) (ev_call (tv__law_falls versions10 case17 way20 (by first | exact scQ | exact hv | exact hc | exact hc.j | exact hcs | exact hr | exact hcl | exact hwm | exact hwn | exact hbr.2 | (rw [← hws]; assumption) | (unfold ways; simp) | exact hcs _ (by assumption) | exact hcs _ (getD_mem' [] (List.mem_range.mp (by assumption))) | (rw [List.length_range]; omega) | exact lf_lt hv | exact worse_len hv hcs hcl | exact List.mem_range.mp (by assumption) | exact lfl_lt hv (hcs _ (getD_mem' [] (List.mem_range.mp (by assumption)))) /-11-/) (by first | exact scQ | exact hv | exact hc | exact hc.j | exact hcs | exact hr | exact hcl | exact hwm | exact hwn | exact hbr.2 | (rw [← hws]; assumption) | (unfold ways; simp) | exact hcs _ (by assumption) | exact hcs _ (getD_mem' [] (List.mem_range.mp (by assumption))) | (rw [List.length_range]; omega) | exact lf_lt hv | exact worse_len hv hcs hcl | exact List.mem_range.mp (by assumption) | exact lfl_lt hv (hcs _ (getD_mem' [] (List.mem_range.mp (by assumption)))) /-12-/) (by first | exact scQ | exact hv | exact hc | exact hc.j | exact hcs | exact hr | exact hcl | exact hwm | exact hwn | exact hbr.2 | (rw [← hws]; assumption) | (unfold ways; simp) | exact hcs _ (by assumption) | exact hcs _ (getD_mem' [] (List.mem_range.mp (by assumption))) | (rw [List.length_range]; omega) | exact lf_lt hv | exact worse_len hv hcs hcl | exact List.mem_range.mp (by assumption) | exact lfl_lt hv (hcs _ (getD_mem' [] (List.mem_range.mp (by assumption)))) /-13-/)) (ea_cons (da := ((eT yVer) versions10)) (ev_fz (i := 3) rfl) (ea_cons (da := ((eDc eI) case17)) (ev_fz (i := 8) rfl) (ea_cons (da := (eS way20)) (ev_fz (i := 9) rfl) ea_nil))) rdT) ea_nil)) rdT))), (fun _ => leT), fun hp22 => ⟨_, _, (ev_fz (i := 9) rfl), leT⟩⟩)) (map_id_e _ _)) (ev_lst ea_nil) (gNe_g (gd_list (gd_str (n := 0))))) (by exact lawpT /-19-/) (sg_skip ?_)
      show Sg [.fz ((eL eI) script), .ow (Wd ds ((s15 : Nat) : Int)), .fz (eN turn3), .fz ((eT yVer) versions10), .rd ((eL (eDc eI)) cases11), .any, .fz (eI day13), .rd ((eL eS) ways14), .fz ((eDc eI) case17), .any, .any, .any, .any, .any, .any] _ _ _
      refine sg_set (d := ((eT eS) (ways14.filter (fun (way23 : OkS) => (decide ((T__law_falls versions10 case17 way23) = (T__law_falls versions10 case17 (okS "done")))))))) (ev_tupL (enc := eS) (xs := (ways14.filter (fun (way23 : OkS) => (decide ((T__law_falls versions10 case17 way23) = (T__law_falls versions10 case17 (okS "done"))))))) (Ev.eq (ev_lc (enc := eS) (encB := eS) (xs := ways14) (p := (fun (way23 : OkS) => (decide ((T__law_falls versions10 case17 way23) = (T__law_falls versions10 case17 (okS "done")))))) (fe := (fun (way23 : OkS) => way23)) (ew_nam (d := ((eL eS) ways14)) (ev_rd (i := 7) rfl) rfl) (by first | exact scQ | exact hv | exact hc | exact hc.j | exact hcs | exact hr | exact hcl | exact hwm | exact hwn | exact hbr.2 | (rw [← hws]; assumption) | (unfold ways; simp) | exact hcs _ (by assumption) | exact hcs _ (getD_mem' [] (List.mem_range.mp (by assumption))) | (rw [List.length_range]; omega) | exact lf_lt hv | exact worse_len hv hcs hcl | exact List.mem_range.mp (by assumption) | exact lfl_lt hv (hcs _ (getD_mem' [] (List.mem_range.mp (by assumption)))) /-26-/) (fun way23 hx24 => ⟨_, tg_n, (tj_cmp (p := (decide ((T__law_falls versions10 case17 way23) = (T__law_falls versions10 case17 (okS "done"))))) (da := (eN (T__law_falls versions10 case17 way23))) (db := (eN (T__law_falls versions10 case17 (okS "done")))) (ev_call (tv__law_falls versions10 case17 way23 (by first | exact scQ | exact hv | exact hc | exact hc.j | exact hcs | exact hr | exact hcl | exact hwm | exact hwn | exact hbr.2 | (rw [← hws]; assumption) | (unfold ways; simp) | exact hcs _ (by assumption) | exact hcs _ (getD_mem' [] (List.mem_range.mp (by assumption))) | (rw [List.length_range]; omega) | exact lf_lt hv | exact worse_len hv hcs hcl | exact List.mem_range.mp (by assumption) | exact lfl_lt hv (hcs _ (getD_mem' [] (List.mem_range.mp (by assumption)))) /-20-/) (by first | exact scQ | exact hv | exact hc | exact hc.j | exact hcs | exact hr | exact hcl | exact hwm | exact hwn | exact hbr.2 | (rw [← hws]; assumption) | (unfold ways; simp) | exact hcs _ (by assumption) | exact hcs _ (getD_mem' [] (List.mem_range.mp (by assumption))) | (rw [List.length_range]; omega) | exact lf_lt hv | exact worse_len hv hcs hcl | exact List.mem_range.mp (by assumption) | exact lfl_lt hv (hcs _ (getD_mem' [] (List.mem_range.mp (by assumption)))) /-21-/) (by first | exact scQ | exact hv | exact hc | exact hc.j | exact hcs | exact hr | exact hcl | exact hwm | exact hwn | exact hbr.2 | (rw [← hws]; assumption) | (unfold ways; simp) | exact hcs _ (by assumption) | exact hcs _ (getD_mem' [] (List.mem_range.mp (by assumption))) | (rw [List.length_range]; omega) | exact lf_lt hv | exact worse_len hv hcs hcl | exact List.mem_range.mp (by assumption) | exact lfl_lt hv (hcs _ (getD_mem' [] (List.mem_range.mp (by assumption)))) /-22-/)) (ea_cons (da := ((eT yVer) versions10)) (ev_fz (i := 3) rfl) (ea_cons (da := ((eDc eI) case17)) (ev_fz (i := 8) rfl) (ea_cons (da := (eS way23)) (ev_fz (i := 9) rfl) ea_nil))) rdT) (ev_call (tv__law_falls versions10 case17 (okS "done") (by first | exact scQ | exact hv | exact hc | exact hc.j | exact hcs | exact hr | exact hcl | exact hwm | exact hwn | exact hbr.2 | (rw [← hws]; assumption) | (unfold ways; simp) | exact hcs _ (by assumption) | exact hcs _ (getD_mem' [] (List.mem_range.mp (by assumption))) | (rw [List.length_range]; omega) | exact lf_lt hv | exact worse_len hv hcs hcl | exact List.mem_range.mp (by assumption) | exact lfl_lt hv (hcs _ (getD_mem' [] (List.mem_range.mp (by assumption)))) /-23-/) (by first | exact scQ | exact hv | exact hc | exact hc.j | exact hcs | exact hr | exact hcl | exact hwm | exact hwn | exact hbr.2 | (rw [← hws]; assumption) | (unfold ways; simp) | exact hcs _ (by assumption) | exact hcs _ (getD_mem' [] (List.mem_range.mp (by assumption))) | (rw [List.length_range]; omega) | exact lf_lt hv | exact worse_len hv hcs hcl | exact List.mem_range.mp (by assumption) | exact lfl_lt hv (hcs _ (getD_mem' [] (List.mem_range.mp (by assumption)))) /-24-/) (by first | exact scQ | exact hv | exact hc | exact hc.j | exact hcs | exact hr | exact hcl | exact hwm | exact hwn | exact hbr.2 | (rw [← hws]; assumption) | (unfold ways; simp) | exact hcs _ (by assumption) | exact hcs _ (getD_mem' [] (List.mem_range.mp (by assumption))) | (rw [List.length_range]; omega) | exact lf_lt hv | exact worse_len hv hcs hcl | exact List.mem_range.mp (by assumption) | exact lfl_lt hv (hcs _ (getD_mem' [] (List.mem_range.mp (by assumption)))) /-25-/)) (ea_cons (da := ((eT yVer) versions10)) (ev_fz (i := 3) rfl) (ea_cons (da := ((eDc eI) case17)) (ev_fz (i := 8) rfl) (ea_cons (da := (eS (okS "done"))) ev_C ea_nil))) rdT) gEq_nn), (fun _ => leT), fun hp25 => ⟨_, _, (ev_fz (i := 9) rfl), leT⟩⟩)) (map_id_e _ _))) ?_
      refine sg_gen0 (fun due26 : (List OkS) => [.fz ((eL eI) script), .ow (Wd ds ((s15 : Nat) : Int)), .fz (eN turn3), .fz ((eT yVer) versions10), .rd ((eL (eDc eI)) cases11), .any, .fz (eI day13), .rd ((eL eS) ways14), .fz ((eDc eI) case17), .any, .fz ((eT eS) due26), .any, .any, .any, .any]) (x := (ways14.filter (fun (way23 : OkS) => (decide ((T__law_falls versions10 case17 way23) = (T__law_falls versions10 case17 (okS "done"))))))) fun due26 hdue26 => ?_
      refine sg_ifF (p := (!true)) (tj_not (p := true) (tj_b (p := true) (ev_call (tv__law_alike (eT eS) 6 (T_same_ways versions10 case17) due26 (okv_tl (by exact Nat.le_trans same_len (by decide) /-30-/) (fun _ _ => okv_s)) (by rw [hdue26]; exact same_eq hv hc hws /-29-/)) (ea_cons (da := ((eT eS) (T_same_ways versions10 case17))) (ev_call (tv_same_ways versions10 case17 (by first | exact scQ | exact hv | exact hc | exact hc.j | exact hcs | exact hr | exact hcl | exact hwm | exact hwn | exact hbr.2 | (rw [← hws]; assumption) | (unfold ways; simp) | exact hcs _ (by assumption) | exact hcs _ (getD_mem' [] (List.mem_range.mp (by assumption))) | (rw [List.length_range]; omega) | exact lf_lt hv | exact worse_len hv hcs hcl | exact List.mem_range.mp (by assumption) | exact lfl_lt hv (hcs _ (getD_mem' [] (List.mem_range.mp (by assumption)))) /-27-/) (by first | exact scQ | exact hv | exact hc | exact hc.j | exact hcs | exact hr | exact hcl | exact hwm | exact hwn | exact hbr.2 | (rw [← hws]; assumption) | (unfold ways; simp) | exact hcs _ (by assumption) | exact hcs _ (getD_mem' [] (List.mem_range.mp (by assumption))) | (rw [List.length_range]; omega) | exact lf_lt hv | exact worse_len hv hcs hcl | exact List.mem_range.mp (by assumption) | exact lfl_lt hv (hcs _ (getD_mem' [] (List.mem_range.mp (by assumption)))) /-28-/)) (ea_cons (da := ((eT yVer) versions10)) (ev_fz (i := 3) rfl) (ea_cons (da := ((eDc eI) case17)) (ev_fz (i := 8) rfl) ea_nil)) rdT) (ea_cons (da := ((eT eS) due26)) (ev_fz (i := 10) rfl) ea_nil)) rdT))) (by exact lawpT /-31-/) (sg_skip ?_)
      show Sg [.fz ((eL eI) script), .ow (Wd ds ((s15 : Nat) : Int)), .fz (eN turn3), .fz ((eT yVer) versions10), .rd ((eL (eDc eI)) cases11), .any, .fz (eI day13), .rd ((eL eS) ways14), .fz ((eDc eI) case17), .any, .fz ((eT eS) due26), .any, .any, .any, .any] _ _ _
      have bx32 := nx_bd ds s15 (4 : Int) scT
      refine sg_set (d := ((eT (e2 eI eS)) ((mapS (fun (i27 : Nat) (k28 : Nat) => (((nx ds i27 ((versions10.length : Nat) : Int)), (pkT ds (i27 + 1) ways14 dS0)), i27 + 1 + 1)) (s15 + 1) (List.range (nx ds s15 (4 : Int)).toNat)).1))) (ev_tupL (enc := (e2 eI eS)) (xs := (mapS (fun (i27 : Nat) (k28 : Nat) => (((nx ds i27 ((versions10.length : Nat) : Int)), (pkT ds (i27 + 1) ways14 dS0)), i27 + 1 + 1)) (s15 + 1) (List.range (nx ds s15 (4 : Int)).toNat)).1) (ev_lcS (enc := eN) (encB := (e2 eI eS)) (Eσ := fun (i27 : Nat) => [.fz ((eL eI) script), .ow (Wd ds ((i27 : Nat) : Int)), .fz (eN turn3), .fz ((eT yVer) versions10), .rd ((eL (eDc eI)) cases11), .any, .fz (eI day13), .rd ((eL eS) ways14), .fz ((eDc eI) case17), .any, .fz ((eT eS) due26), .any, .any, .any, .any]) (s0 := s15 + 1) (xs := (List.range (nx ds s15 (4 : Int)).toNat)) (fe := (fun (i27 : Nat) (k28 : Nat) => (((nx ds i27 ((versions10.length : Nat) : Int)), (pkT ds (i27 + 1) ways14 dS0)), i27 + 1 + 1))) (ew_rgI (x := (nx ds s15 (4 : Int))) (ev_call (tv_next ds s15 (4 : Int) (by first | exact scQ | exact hv | exact hc | exact hc.j | exact hcs | exact hr | exact hcl | exact hwm | exact hwn | exact hbr.2 | (rw [← hws]; assumption) | (unfold ways; simp) | exact hcs _ (by assumption) | exact hcs _ (getD_mem' [] (List.mem_range.mp (by assumption))) | (rw [List.length_range]; omega) | exact lf_lt hv | exact worse_len hv hcs hcl | exact List.mem_range.mp (by assumption) | exact lfl_lt hv (hcs _ (getD_mem' [] (List.mem_range.mp (by assumption)))) /-32-/)) (ea_consO (i := 1) rfl (ea_cons (da := .int (4 : Int)) ev_C ea_nil)) rdT) (by first | exact scQ | exact hv | exact hc | exact hc.j | exact hcs | exact hr | exact hcl | exact hwm | exact hwn | exact hbr.2 | (rw [← hws]; assumption) | (unfold ways; simp) | exact hcs _ (by assumption) | exact hcs _ (getD_mem' [] (List.mem_range.mp (by assumption))) | (rw [List.length_range]; omega) | exact lf_lt hv | exact worse_len hv hcs hcl | exact List.mem_range.mp (by assumption) | exact lfl_lt hv (hcs _ (getD_mem' [] (List.mem_range.mp (by assumption)))) /-33-/) (by first | exact scQ | exact hv | exact hc | exact hc.j | exact hcs | exact hr | exact hcl | exact hwm | exact hwn | exact hbr.2 | (rw [← hws]; assumption) | (unfold ways; simp) | exact hcs _ (by assumption) | exact hcs _ (getD_mem' [] (List.mem_range.mp (by assumption))) | (rw [List.length_range]; omega) | exact lf_lt hv | exact worse_len hv hcs hcl | exact List.mem_range.mp (by assumption) | exact lfl_lt hv (hcs _ (getD_mem' [] (List.mem_range.mp (by assumption)))) /-34-/)) (by first | exact scQ | exact hv | exact hc | exact hc.j | exact hcs | exact hr | exact hcl | exact hwm | exact hwn | exact hbr.2 | (rw [← hws]; assumption) | (unfold ways; simp) | exact hcs _ (by assumption) | exact hcs _ (getD_mem' [] (List.mem_range.mp (by assumption))) | (rw [List.length_range]; omega) | exact lf_lt hv | exact worse_len hv hcs hcl | exact List.mem_range.mp (by assumption) | exact lfl_lt hv (hcs _ (getD_mem' [] (List.mem_range.mp (by assumption)))) /-37-/) (by intro _ _; rfl) (by intro _ _ i_ h_; simp at h_; subst h_; rfl) (fun k28 hx29 i27 => ⟨_, tg_n, _, _, (ev_tup (ea_cons (da := (eI (nx ds i27 ((versions10.length : Nat) : Int)))) (ev_call (tv_next ds i27 ((versions10.length : Nat) : Int) (by first | exact scQ | exact hv | exact hc | exact hc.j | exact hcs | exact hr | exact hcl | exact hwm | exact hwn | exact hbr.2 | (rw [← hws]; assumption) | (unfold ways; simp) | exact hcs _ (by assumption) | exact hcs _ (getD_mem' [] (List.mem_range.mp (by assumption))) | (rw [List.length_range]; omega) | exact lf_lt hv | exact worse_len hv hcs hcl | exact List.mem_range.mp (by assumption) | exact lfl_lt hv (hcs _ (getD_mem' [] (List.mem_range.mp (by assumption)))) /-35-/)) (ea_consO (i := 1) rfl (ea_cons (da := .int ((versions10.length : Nat) : Int)) (ev_lenT (enc := yVer) (xs := versions10) (ev_fz (i := 3) rfl)) ea_nil)) rdT) (ea_cons (da := (eS (pkT ds (i27 + 1) ways14 dS0))) (ev_call (tv_pickL dS0 ds (i27 + 1) ways14 eS (by first | exact scQ | exact hv | exact hc | exact hc.j | exact hcs | exact hr | exact hcl | exact hwm | exact hwn | exact hbr.2 | (rw [← hws]; assumption) | (unfold ways; simp) | exact hcs _ (by assumption) | exact hcs _ (getD_mem' [] (List.mem_range.mp (by assumption))) | (rw [List.length_range]; omega) | exact lf_lt hv | exact worse_len hv hcs hcl | exact List.mem_range.mp (by assumption) | exact lfl_lt hv (hcs _ (getD_mem' [] (List.mem_range.mp (by assumption)))) /-36-/)) (ea_consO (i := 1) rfl (ea_cons (da := ((eL eS) ways14)) (ev_rd (i := 7) rfl) ea_nil)) rdT) ea_nil))), leT⟩))) ?_
      refine sg_gen0 (fun rules31 : (List (Int × OkS)) => [.fz ((eL eI) script), .ow (Wd ds (((mapS (fun (i27 : Nat) (k28 : Nat) => (((nx ds i27 ((versions10.length : Nat) : Int)), (pkT ds (i27 + 1) ways14 dS0)), i27 + 1 + 1)) (s15 + 1) (List.range (nx ds s15 (4 : Int)).toNat)).2 : Nat) : Int)), .fz (eN turn3), .fz ((eT yVer) versions10), .rd ((eL (eDc eI)) cases11), .any, .fz (eI day13), .rd ((eL eS) ways14), .fz ((eDc eI) case17), .any, .fz ((eT eS) due26), .fz ((eT (e2 eI eS)) rules31), .any, .any, .any]) (x := (mapS (fun (i27 : Nat) (k28 : Nat) => (((nx ds i27 ((versions10.length : Nat) : Int)), (pkT ds (i27 + 1) ways14 dS0)), i27 + 1 + 1)) (s15 + 1) (List.range (nx ds s15 (4 : Int)).toNat)).1) fun rules31 hrules31 => ?_
      have hr : OkRu rules31 := by rw [hrules31]; exact lrules_ok (m := fun _ => ((versions10.length : Nat) : Int)) hws
      have hrl := hr.1
      refine sg_gen0 (fun i32 : Nat => [.fz ((eL eI) script), .ow (Wd ds ((i32 : Nat) : Int)), .fz (eN turn3), .fz ((eT yVer) versions10), .rd ((eL (eDc eI)) cases11), .any, .fz (eI day13), .rd ((eL eS) ways14), .fz ((eDc eI) case17), .any, .fz ((eT eS) due26), .fz ((eT (e2 eI eS)) rules31), .any, .any, .any]) (x := (mapS (fun (i27 : Nat) (k28 : Nat) => (((nx ds i27 ((versions10.length : Nat) : Int)), (pkT ds (i27 + 1) ways14 dS0)), i27 + 1 + 1)) (s15 + 1) (List.range (nx ds s15 (4 : Int)).toNat)).2) fun i32 hi32 => ?_
      refine sg_set (d := (eS (okS "done"))) ev_C ?_
      show Sg [.fz ((eL eI) script), .ow (Wd ds ((i32 : Nat) : Int)), .fz (eN turn3), .fz ((eT yVer) versions10), .rd ((eL (eDc eI)) cases11), .any, .fz (eI day13), .rd ((eL eS) ways14), .fz ((eDc eI) case17), .fz (eS (okS "done")), .fz ((eT eS) due26), .fz ((eT (e2 eI eS)) rules31), .any, .any, .any] _ _ _
      refine sg_for0 (step := (fun (s33 : (OkS)) (x35 : (Int × OkS)) => Let ((if (decide (x35.1 ≤ (((T__law_on versions10 (aget case17 (okS "judged") 0)) : Nat) : Int))) = true then x35.2 else s33) : OkS) fun way39 => way39)) (enc := (e2 eI eS)) (xs := rules31) (s0 := (okS "done")) (fun (s33 : (OkS)) => [.fz ((eL eI) script), .ow (Wd ds ((i32 : Nat) : Int)), .fz (eN turn3), .fz ((eT yVer) versions10), .rd ((eL (eDc eI)) cases11), .any, .fz (eI day13), .rd ((eL eS) ways14), .fz ((eDc eI) case17), .fz (eS s33), .fz ((eT eS) due26), .fz ((eT (e2 eI eS)) rules31), .any, .any, .any]) (fun (k : Nat) (s33 : (OkS)) => True) (ew_val (d := ((eT (e2 eI eS)) rules31)) (ev_fz (i := 11) rfl) rfl) leT (by trivial) (fun k34 x35 s33 hk36 hI37 => ⟨_, (tg_t (tg_cons tg_n (tg_cons tg_n tg_nil))), ?_⟩) (by intro k34 x35 s33 hk36 hI37; trivial) (fun s33 hs33 hI37 => ?_)
      · show Sg [.fz ((eL eI) script), .ow (Wd ds ((i32 : Nat) : Int)), .fz (eN turn3), .fz ((eT yVer) versions10), .rd ((eL (eDc eI)) cases11), .any, .fz (eI day13), .rd ((eL eS) ways14), .fz ((eDc eI) case17), .fz (eS s33), .fz ((eT eS) due26), .fz ((eT (e2 eI eS)) rules31), .fz (eI x35.1), .fz (eS x35.2), .any] _ _ _
        have hlthk36 := lt_of_get hk36
        have hmhk36 := List.mem_of_getElem? hk36
        refine sg_last ?_
        refine sg_set (d := (eS (if (decide (x35.1 ≤ (((T__law_on versions10 (aget case17 (okS "judged") 0)) : Nat) : Int))) = true then x35.2 else s33))) (ev_if (enc := eS) (x := x35.2) (y := s33) (tj_cmp (p := (decide (x35.1 ≤ (((T__law_on versions10 (aget case17 (okS "judged") 0)) : Nat) : Int)))) (da := (eI x35.1)) (db := (eI (((T__law_on versions10 (aget case17 (okS "judged") 0)) : Nat) : Int))) (ev_fz (i := 12) rfl) (ev_call (tv__law_on versions10 (aget case17 (okS "judged") 0) (by first | exact scQ | exact hv | exact hc | exact hc.j | exact hcs | exact hr | exact hcl | exact hwm | exact hwn | exact hbr.2 | (rw [← hws]; assumption) | (unfold ways; simp) | exact hcs _ (by assumption) | exact hcs _ (getD_mem' [] (List.mem_range.mp (by assumption))) | (rw [List.length_range]; omega) | exact lf_lt hv | exact worse_len hv hcs hcl | exact List.mem_range.mp (by assumption) | exact lfl_lt hv (hcs _ (getD_mem' [] (List.mem_range.mp (by assumption)))) /-39-/)) (ea_cons (da := ((eT yVer) versions10)) (ev_fz (i := 3) rfl) (ea_cons (da := (eI (aget case17 (okS "judged") 0))) (ev_ixA 0 (enc := eI) (kvs := case17) (x := (okS "judged")) (ev_fz (i := 8) rfl) ev_C (by first | exact scQ | exact hv | exact hc | exact hc.j | exact hcs | exact hr | exact hcl | exact hwm | exact hwn | exact hbr.2 | (rw [← hws]; assumption) | (unfold ways; simp) | exact hcs _ (by assumption) | exact hcs _ (getD_mem' [] (List.mem_range.mp (by assumption))) | (rw [List.length_range]; omega) | exact lf_lt hv | exact worse_len hv hcs hcl | exact List.mem_range.mp (by assumption) | exact lfl_lt hv (hcs _ (getD_mem' [] (List.mem_range.mp (by assumption)))) /-38-/)) ea_nil)) rdT) gLe_ii) (fun hb38 => (ev_fz (i := 13) rfl)) (fun hb38 => (ev_fz (i := 9) rfl))) ?_
        refine sg_gen (fun way39 : OkS => [.fz ((eL eI) script), .ow (Wd ds ((i32 : Nat) : Int)), .fz (eN turn3), .fz ((eT yVer) versions10), .rd ((eL (eDc eI)) cases11), .any, .fz (eI day13), .rd ((eL eS) ways14), .fz ((eDc eI) case17), .fz (eS way39), .fz ((eT eS) due26), .fz ((eT (e2 eI eS)) rules31), .fz (eI x35.1), .fz (eS x35.2), .any]) (x := (if (decide (x35.1 ≤ (((T__law_on versions10 (aget case17 (okS "judged") 0)) : Nat) : Int))) = true then x35.2 else s33)) fun way39 hway39 => ?_
        exact sg_passN leT
      show Sg [.fz ((eL eI) script), .ow (Wd ds ((i32 : Nat) : Int)), .fz (eN turn3), .fz ((eT yVer) versions10), .rd ((eL (eDc eI)) cases11), .any, .fz (eI day13), .rd ((eL eS) ways14), .fz ((eDc eI) case17), .fz (eS s33), .fz ((eT eS) due26), .fz ((eT (e2 eI eS)) rules31), .any, .any, .any] _ _ _
      have hbr := br_eq hv hc hr hs33
      refine sg_last ?_
      refine sg_ifF (p := (!true)) (tj_not (p := true) (tj_b (p := true) (ev_call (tv__law_alike eN 6 (T_bridged versions10 case17 rules31) (T__law_falls versions10 case17 s33) okv_n (by exact hbr.1 /-46-/)) (ea_cons (da := (eN (T_bridged versions10 case17 rules31))) (ev_call (tv_bridged versions10 case17 rules31 (by first | exact scQ | exact hv | exact hc | exact hc.j | exact hcs | exact hr | exact hcl | exact hwm | exact hwn | exact hbr.2 | (rw [← hws]; assumption) | (unfold ways; simp) | exact hcs _ (by assumption) | exact hcs _ (getD_mem' [] (List.mem_range.mp (by assumption))) | (rw [List.length_range]; omega) | exact lf_lt hv | exact worse_len hv hcs hcl | exact List.mem_range.mp (by assumption) | exact lfl_lt hv (hcs _ (getD_mem' [] (List.mem_range.mp (by assumption)))) /-43-/) (by first | exact scQ | exact hv | exact hc | exact hc.j | exact hcs | exact hr | exact hcl | exact hwm | exact hwn | exact hbr.2 | (rw [← hws]; assumption) | (unfold ways; simp) | exact hcs _ (by assumption) | exact hcs _ (getD_mem' [] (List.mem_range.mp (by assumption))) | (rw [List.length_range]; omega) | exact lf_lt hv | exact worse_len hv hcs hcl | exact List.mem_range.mp (by assumption) | exact lfl_lt hv (hcs _ (getD_mem' [] (List.mem_range.mp (by assumption)))) /-44-/) (by first | exact scQ | exact hv | exact hc | exact hc.j | exact hcs | exact hr | exact hcl | exact hwm | exact hwn | exact hbr.2 | (rw [← hws]; assumption) | (unfold ways; simp) | exact hcs _ (by assumption) | exact hcs _ (getD_mem' [] (List.mem_range.mp (by assumption))) | (rw [List.length_range]; omega) | exact lf_lt hv | exact worse_len hv hcs hcl | exact List.mem_range.mp (by assumption) | exact lfl_lt hv (hcs _ (getD_mem' [] (List.mem_range.mp (by assumption)))) /-45-/)) (ea_cons (da := ((eT yVer) versions10)) (ev_fz (i := 3) rfl) (ea_cons (da := ((eDc eI) case17)) (ev_fz (i := 8) rfl) (ea_cons (da := ((eT yRul) rules31)) (ev_fz (i := 11) rfl) ea_nil))) rdT) (ea_cons (da := (eN (T__law_falls versions10 case17 s33))) (ev_call (tv__law_falls versions10 case17 s33 (by first | exact scQ | exact hv | exact hc | exact hc.j | exact hcs | exact hr | exact hcl | exact hwm | exact hwn | exact hbr.2 | (rw [← hws]; assumption) | (unfold ways; simp) | exact hcs _ (by assumption) | exact hcs _ (getD_mem' [] (List.mem_range.mp (by assumption))) | (rw [List.length_range]; omega) | exact lf_lt hv | exact worse_len hv hcs hcl | exact List.mem_range.mp (by assumption) | exact lfl_lt hv (hcs _ (getD_mem' [] (List.mem_range.mp (by assumption)))) /-40-/) (by first | exact scQ | exact hv | exact hc | exact hc.j | exact hcs | exact hr | exact hcl | exact hwm | exact hwn | exact hbr.2 | (rw [← hws]; assumption) | (unfold ways; simp) | exact hcs _ (by assumption) | exact hcs _ (getD_mem' [] (List.mem_range.mp (by assumption))) | (rw [List.length_range]; omega) | exact lf_lt hv | exact worse_len hv hcs hcl | exact List.mem_range.mp (by assumption) | exact lfl_lt hv (hcs _ (getD_mem' [] (List.mem_range.mp (by assumption)))) /-41-/) (by first | exact scQ | exact hv | exact hc | exact hc.j | exact hcs | exact hr | exact hcl | exact hwm | exact hwn | exact hbr.2 | (rw [← hws]; assumption) | (unfold ways; simp) | exact hcs _ (by assumption) | exact hcs _ (getD_mem' [] (List.mem_range.mp (by assumption))) | (rw [List.length_range]; omega) | exact lf_lt hv | exact worse_len hv hcs hcl | exact List.mem_range.mp (by assumption) | exact lfl_lt hv (hcs _ (getD_mem' [] (List.mem_range.mp (by assumption)))) /-42-/)) (ea_cons (da := ((eT yVer) versions10)) (ev_fz (i := 3) rfl) (ea_cons (da := ((eDc eI) case17)) (ev_fz (i := 8) rfl) (ea_cons (da := (eS s33)) (ev_fz (i := 9) rfl) ea_nil))) rdT) ea_nil)) rdT))) (by exact lawpT /-47-/) (sg_skip ?_)
      show Sg [.fz ((eL eI) script), .ow (Wd ds ((i32 : Nat) : Int)), .fz (eN turn3), .fz ((eT yVer) versions10), .rd ((eL (eDc eI)) cases11), .any, .fz (eI day13), .rd ((eL eS) ways14), .fz ((eDc eI) case17), .fz (eS s33), .fz ((eT eS) due26), .fz ((eT (e2 eI eS)) rules31), .any, .any, .any] _ _ _
      exact sg_passX i32 (by trivial /-48-/) leT
    show Sg [.fz ((eL eI) script), .ow (Wd ds ((s15 : Nat) : Int)), .fz (eN turn3), .fz ((eT yVer) versions10), .rd ((eL (eDc eI)) cases11), .any, .fz (eI day13), .rd ((eL eS) ways14), .any, .any, .any, .any, .any, .any, .any] _ _ _
    refine sg_last ?_
    refine sg_forX (enc := eS) (xs := ways14) (fun (s40 : (Unit)) => [.fz ((eL eI) script), .ow (Wd ds ((s15 : Nat) : Int)), .fz (eN turn3), .fz ((eT yVer) versions10), .rd ((eL (eDc eI)) cases11), .any, .fz (eI day13), .rd ((eL eS) ways14), .any, .any, .any, .any, .any, .any, .any]) () (fun (k : Nat) (s40 : (Unit)) => True) (ew_nam (d := ((eL eS) ways14)) (ev_rd (i := 7) rfl) rfl) leT (by trivial) (fun k41 way42 s40 hk43 hI44 => ⟨_, tg_n, ?_⟩) (fun s40 hI44 => ?_)
    · show Sg [.fz ((eL eI) script), .ow (Wd ds ((s15 : Nat) : Int)), .fz (eN turn3), .fz ((eT yVer) versions10), .rd ((eL (eDc eI)) cases11), .any, .fz (eI day13), .rd ((eL eS) ways14), .any, .fz (eS way42), .any, .any, .any, .any, .any] _ _ _
      have hlthk43 := lt_of_get hk43
      have hmhk43 := List.mem_of_getElem? hk43
      have hwm := hmhk43
      rw [hws] at hwm
      refine sg_set (d := ((eL eN) ((List.range cases11.length).filter (fun (k45 : Nat) => (decide ((versions10.getD (T__law_falls versions10 (cases11.getD k45 []) (okS "mildest")) (none, 0)).2 < (versions10.getD (T__law_falls versions10 (cases11.getD k45 []) way42) (none, 0)).2)))))) (Ev.eq (ev_lc (enc := eN) (encB := eN) (xs := (List.range cases11.length)) (p := (fun (k45 : Nat) => (decide ((versions10.getD (T__law_falls versions10 (cases11.getD k45 []) (okS "mildest")) (none, 0)).2 < (versions10.getD (T__law_falls versions10 (cases11.getD k45 []) way42) (none, 0)).2)))) (fe := (fun (k45 : Nat) => k45)) (ew_rgN (n := cases11.length) (ev_lenL (enc := (eDc eI)) (xs := cases11) (ev_rd (i := 4) rfl)) (by first | exact scQ | exact hv | exact hc | exact hc.j | exact hcs | exact hr | exact hcl | exact hwm | exact hwn | exact hbr.2 | (rw [← hws]; assumption) | (unfold ways; simp) | exact hcs _ (by assumption) | exact hcs _ (getD_mem' [] (List.mem_range.mp (by assumption))) | (rw [List.length_range]; omega) | exact lf_lt hv | exact worse_len hv hcs hcl | exact List.mem_range.mp (by assumption) | exact lfl_lt hv (hcs _ (getD_mem' [] (List.mem_range.mp (by assumption)))) /-49-/)) (by first | exact scQ | exact hv | exact hc | exact hc.j | exact hcs | exact hr | exact hcl | exact hwm | exact hwn | exact hbr.2 | (rw [← hws]; assumption) | (unfold ways; simp) | exact hcs _ (by assumption) | exact hcs _ (getD_mem' [] (List.mem_range.mp (by assumption))) | (rw [List.length_range]; omega) | exact lf_lt hv | exact worse_len hv hcs hcl | exact List.mem_range.mp (by assumption) | exact lfl_lt hv (hcs _ (getD_mem' [] (List.mem_range.mp (by assumption)))) /-60-/) (fun k45 hx46 => ⟨_, tg_n, (tj_cmp (p := (decide ((versions10.getD (T__law_falls versions10 (cases11.getD k45 []) (okS "mildest")) (none, 0)).2 < (versions10.getD (T__law_falls versions10 (cases11.getD k45 []) way42) (none, 0)).2))) (da := (eI ((versions10.getD (T__law_falls versions10 (cases11.getD k45 []) way42) (none, 0)).2))) (db := (eI ((versions10.getD (T__law_falls versions10 (cases11.getD k45 []) (okS "mildest")) (none, 0)).2))) (ev_ixC (d := (yVer (versions10.getD (T__law_falls versions10 (cases11.getD k45 []) way42) (none, 0)))) (d' := (eI ((versions10.getD (T__law_falls versions10 (cases11.getD k45 []) way42) (none, 0)).2))) (ev_ixTN (none, 0) (enc := yVer) (xs := versions10) (p := (T__law_falls versions10 (cases11.getD k45 []) way42)) (ev_fz (i := 3) rfl) (ev_call (tv__law_falls versions10 (cases11.getD k45 []) way42 (by first | exact scQ | exact hv | exact hc | exact hc.j | exact hcs | exact hr | exact hcl | exact hwm | exact hwn | exact hbr.2 | (rw [← hws]; assumption) | (unfold ways; simp) | exact hcs _ (by assumption) | exact hcs _ (getD_mem' [] (List.mem_range.mp (by assumption))) | (rw [List.length_range]; omega) | exact lf_lt hv | exact worse_len hv hcs hcl | exact List.mem_range.mp (by assumption) | exact lfl_lt hv (hcs _ (getD_mem' [] (List.mem_range.mp (by assumption)))) /-51-/) (by first | exact scQ | exact hv | exact hc | exact hc.j | exact hcs | exact hr | exact hcl | exact hwm | exact hwn | exact hbr.2 | (rw [← hws]; assumption) | (unfold ways; simp) | exact hcs _ (by assumption) | exact hcs _ (getD_mem' [] (List.mem_range.mp (by assumption))) | (rw [List.length_range]; omega) | exact lf_lt hv | exact worse_len hv hcs hcl | exact List.mem_range.mp (by assumption) | exact lfl_lt hv (hcs _ (getD_mem' [] (List.mem_range.mp (by assumption)))) /-52-/) (by first | exact scQ | exact hv | exact hc | exact hc.j | exact hcs | exact hr | exact hcl | exact hwm | exact hwn | exact hbr.2 | (rw [← hws]; assumption) | (unfold ways; simp) | exact hcs _ (by assumption) | exact hcs _ (getD_mem' [] (List.mem_range.mp (by assumption))) | (rw [List.length_range]; omega) | exact lf_lt hv | exact worse_len hv hcs hcl | exact List.mem_range.mp (by assumption) | exact lfl_lt hv (hcs _ (getD_mem' [] (List.mem_range.mp (by assumption)))) /-53-/)) (ea_cons (da := ((eT yVer) versions10)) (ev_fz (i := 3) rfl) (ea_cons (da := ((eDc eI) (cases11.getD k45 []))) (ev_ixLN [] (enc := (eDc eI)) (xs := cases11) (p := k45) (ev_rd (i := 4) rfl) (ev_fz (i := 5) rfl) (by first | exact scQ | exact hv | exact hc | exact hc.j | exact hcs | exact hr | exact hcl | exact hwm | exact hwn | exact hbr.2 | (rw [← hws]; assumption) | (unfold ways; simp) | exact hcs _ (by assumption) | exact hcs _ (getD_mem' [] (List.mem_range.mp (by assumption))) | (rw [List.length_range]; omega) | exact lf_lt hv | exact worse_len hv hcs hcl | exact List.mem_range.mp (by assumption) | exact lfl_lt hv (hcs _ (getD_mem' [] (List.mem_range.mp (by assumption)))) /-50-/)) (ea_cons (da := (eS way42)) (ev_fz (i := 9) rfl) ea_nil))) rdT) (by first | exact scQ | exact hv | exact hc | exact hc.j | exact hcs | exact hr | exact hcl | exact hwm | exact hwn | exact hbr.2 | (rw [← hws]; assumption) | (unfold ways; simp) | exact hcs _ (by assumption) | exact hcs _ (getD_mem' [] (List.mem_range.mp (by assumption))) | (rw [List.length_range]; omega) | exact lf_lt hv | exact worse_len hv hcs hcl | exact List.mem_range.mp (by assumption) | exact lfl_lt hv (hcs _ (getD_mem' [] (List.mem_range.mp (by assumption)))) /-54-/)) rfl) (ev_ixC (d := (yVer (versions10.getD (T__law_falls versions10 (cases11.getD k45 []) (okS "mildest")) (none, 0)))) (d' := (eI ((versions10.getD (T__law_falls versions10 (cases11.getD k45 []) (okS "mildest")) (none, 0)).2))) (ev_ixTN (none, 0) (enc := yVer) (xs := versions10) (p := (T__law_falls versions10 (cases11.getD k45 []) (okS "mildest"))) (ev_fz (i := 3) rfl) (ev_call (tv__law_falls versions10 (cases11.getD k45 []) (okS "mildest") (by first | exact scQ | exact hv | exact hc | exact hc.j | exact hcs | exact hr | exact hcl | exact hwm | exact hwn | exact hbr.2 | (rw [← hws]; assumption) | (unfold ways; simp) | exact hcs _ (by assumption) | exact hcs _ (getD_mem' [] (List.mem_range.mp (by assumption))) | (rw [List.length_range]; omega) | exact lf_lt hv | exact worse_len hv hcs hcl | exact List.mem_range.mp (by assumption) | exact lfl_lt hv (hcs _ (getD_mem' [] (List.mem_range.mp (by assumption)))) /-56-/) (by first | exact scQ | exact hv | exact hc | exact hc.j | exact hcs | exact hr | exact hcl | exact hwm | exact hwn | exact hbr.2 | (rw [← hws]; assumption) | (unfold ways; simp) | exact hcs _ (by assumption) | exact hcs _ (getD_mem' [] (List.mem_range.mp (by assumption))) | (rw [List.length_range]; omega) | exact lf_lt hv | exact worse_len hv hcs hcl | exact List.mem_range.mp (by assumption) | exact lfl_lt hv (hcs _ (getD_mem' [] (List.mem_range.mp (by assumption)))) /-57-/) (by first | exact scQ | exact hv | exact hc | exact hc.j | exact hcs | exact hr | exact hcl | exact hwm | exact hwn | exact hbr.2 | (rw [← hws]; assumption) | (unfold ways; simp) | exact hcs _ (by assumption) | exact hcs _ (getD_mem' [] (List.mem_range.mp (by assumption))) | (rw [List.length_range]; omega) | exact lf_lt hv | exact worse_len hv hcs hcl | exact List.mem_range.mp (by assumption) | exact lfl_lt hv (hcs _ (getD_mem' [] (List.mem_range.mp (by assumption)))) /-58-/)) (ea_cons (da := ((eT yVer) versions10)) (ev_fz (i := 3) rfl) (ea_cons (da := ((eDc eI) (cases11.getD k45 []))) (ev_ixLN [] (enc := (eDc eI)) (xs := cases11) (p := k45) (ev_rd (i := 4) rfl) (ev_fz (i := 5) rfl) (by first | exact scQ | exact hv | exact hc | exact hc.j | exact hcs | exact hr | exact hcl | exact hwm | exact hwn | exact hbr.2 | (rw [← hws]; assumption) | (unfold ways; simp) | exact hcs _ (by assumption) | exact hcs _ (getD_mem' [] (List.mem_range.mp (by assumption))) | (rw [List.length_range]; omega) | exact lf_lt hv | exact worse_len hv hcs hcl | exact List.mem_range.mp (by assumption) | exact lfl_lt hv (hcs _ (getD_mem' [] (List.mem_range.mp (by assumption)))) /-55-/)) (ea_cons (da := (eS (okS "mildest"))) ev_C ea_nil))) rdT) (by first | exact scQ | exact hv | exact hc | exact hc.j | exact hcs | exact hr | exact hcl | exact hwm | exact hwn | exact hbr.2 | (rw [← hws]; assumption) | (unfold ways; simp) | exact hcs _ (by assumption) | exact hcs _ (getD_mem' [] (List.mem_range.mp (by assumption))) | (rw [List.length_range]; omega) | exact lf_lt hv | exact worse_len hv hcs hcl | exact List.mem_range.mp (by assumption) | exact lfl_lt hv (hcs _ (getD_mem' [] (List.mem_range.mp (by assumption)))) /-59-/)) rfl) gGt_ii), (fun _ => leT), fun hp47 => ⟨_, _, (ev_fz (i := 5) rfl), leT⟩⟩)) (map_id_e _ _)) ?_
      refine sg_gen0 (fun worse48 : (List Nat) => [.fz ((eL eI) script), .ow (Wd ds ((s15 : Nat) : Int)), .fz (eN turn3), .fz ((eT yVer) versions10), .rd ((eL (eDc eI)) cases11), .any, .fz (eI day13), .rd ((eL eS) ways14), .any, .fz (eS way42), .any, .any, .any, .any, .ow ((eL eN) worse48)]) (x := ((List.range cases11.length).filter (fun (k45 : Nat) => (decide ((versions10.getD (T__law_falls versions10 (cases11.getD k45 []) (okS "mildest")) (none, 0)).2 < (versions10.getD (T__law_falls versions10 (cases11.getD k45 []) way42) (none, 0)).2))))) fun worse48 hworse48 => ?_
      refine sg_le (E1 := [.fz ((eL eI) script), .ow (Wd ds ((s15 : Nat) : Int)), .fz (eN turn3), .fz ((eT yVer) versions10), .rd ((eL (eDc eI)) cases11), .any, .fz (eI day13), .rd ((eL eS) ways14), .any, .fz (eS way42), .any, .any, .any, .any, .rd ((eL eN) worse48)]) leT ?_
      refine sg_last ?_
      refine sg_ifF (p := (!true)) (tj_not (p := true) (tj_b (p := true) (ev_call (tv__law_alike (eT eN) 6 (T_worse_off versions10 cases11 way42) worse48 (okv_tl (by first | exact scQ | exact hv | exact hc | exact hc.j | exact hcs | exact hr | exact hcl | exact hwm | exact hwn | exact hbr.2 | (rw [← hws]; assumption) | (unfold ways; simp) | exact hcs _ (by assumption) | exact hcs _ (getD_mem' [] (List.mem_range.mp (by assumption))) | (rw [List.length_range]; omega) | exact lf_lt hv | exact worse_len hv hcs hcl | exact List.mem_range.mp (by assumption) | exact lfl_lt hv (hcs _ (getD_mem' [] (List.mem_range.mp (by assumption)))) /-66-/) (fun _ _ => okv_n)) (by exact (worse_eq hv hcs).trans hworse48.symm /-65-/)) (ea_cons (da := ((eT eN) (T_worse_off versions10 cases11 way42))) (ev_call (tv_worse_off versions10 cases11 way42 (by first | exact scQ | exact hv | exact hc | exact hc.j | exact hcs | exact hr | exact hcl | exact hwm | exact hwn | exact hbr.2 | (rw [← hws]; assumption) | (unfold ways; simp) | exact hcs _ (by assumption) | exact hcs _ (getD_mem' [] (List.mem_range.mp (by assumption))) | (rw [List.length_range]; omega) | exact lf_lt hv | exact worse_len hv hcs hcl | exact List.mem_range.mp (by assumption) | exact lfl_lt hv (hcs _ (getD_mem' [] (List.mem_range.mp (by assumption)))) /-61-/) (by first | exact scQ | exact hv | exact hc | exact hc.j | exact hcs | exact hr | exact hcl | exact hwm | exact hwn | exact hbr.2 | (rw [← hws]; assumption) | (unfold ways; simp) | exact hcs _ (by assumption) | exact hcs _ (getD_mem' [] (List.mem_range.mp (by assumption))) | (rw [List.length_range]; omega) | exact lf_lt hv | exact worse_len hv hcs hcl | exact List.mem_range.mp (by assumption) | exact lfl_lt hv (hcs _ (getD_mem' [] (List.mem_range.mp (by assumption)))) /-62-/) (by first | exact scQ | exact hv | exact hc | exact hc.j | exact hcs | exact hr | exact hcl | exact hwm | exact hwn | exact hbr.2 | (rw [← hws]; assumption) | (unfold ways; simp) | exact hcs _ (by assumption) | exact hcs _ (getD_mem' [] (List.mem_range.mp (by assumption))) | (rw [List.length_range]; omega) | exact lf_lt hv | exact worse_len hv hcs hcl | exact List.mem_range.mp (by assumption) | exact lfl_lt hv (hcs _ (getD_mem' [] (List.mem_range.mp (by assumption)))) /-63-/) (by first | exact scQ | exact hv | exact hc | exact hc.j | exact hcs | exact hr | exact hcl | exact hwm | exact hwn | exact hbr.2 | (rw [← hws]; assumption) | (unfold ways; simp) | exact hcs _ (by assumption) | exact hcs _ (getD_mem' [] (List.mem_range.mp (by assumption))) | (rw [List.length_range]; omega) | exact lf_lt hv | exact worse_len hv hcs hcl | exact List.mem_range.mp (by assumption) | exact lfl_lt hv (hcs _ (getD_mem' [] (List.mem_range.mp (by assumption)))) /-64-/)) (ea_cons (da := ((eT yVer) versions10)) (ev_fz (i := 3) rfl) (ea_cons (da := ((eT (eDc eI)) cases11)) (ev_tupL (enc := (eDc eI)) (xs := cases11) (ev_rd (i := 4) rfl)) (ea_cons (da := (eS way42)) (ev_fz (i := 9) rfl) ea_nil))) rdT) (ea_cons (da := ((eT eN) worse48)) (ev_tupL (enc := eN) (xs := worse48) (ev_rd (i := 14) rfl)) ea_nil)) rdT))) (by exact lawpT /-67-/) (sg_skip ?_)
      show Sg [.fz ((eL eI) script), .ow (Wd ds ((s15 : Nat) : Int)), .fz (eN turn3), .fz ((eT yVer) versions10), .rd ((eL (eDc eI)) cases11), .any, .fz (eI day13), .rd ((eL eS) ways14), .any, .fz (eS way42), .any, .any, .any, .any, .rd ((eL eN) worse48)] _ _ _
      exact sg_passX () (by trivial /-68-/) leT
    show Sg [.fz ((eL eI) script), .ow (Wd ds ((s15 : Nat) : Int)), .fz (eN turn3), .fz ((eT yVer) versions10), .rd ((eL (eDc eI)) cases11), .any, .fz (eI day13), .rd ((eL eS) ways14), .any, .any, .any, .any, .any, .any, .any] _ _ _
    exact sg_passX s15 trivial leT
  show Sg [.fz ((eL eI) script), .ow (Wd ds ((s1 : Nat) : Int)), .any, .any, .any, .any, .any, .any, .any, .any, .any, .any, .any, .any, .any] _ _ _
  refine sg_last ?_
  exact sg_ret (v := true) ev_C leT roT
theorem law_ok : LawOk f_law := law_of law_tv
end Lawk29
open PySem PySem.W PyProof.Rows
set_option maxHeartbeats 0 in
theorem PySem.Challenge.cw_amendwarrant_k29_which_version_a_case_fa_holds : PySem.Challenge.rw_amendwarrant_k29_which_version_a_case_fa.Holds := by
  w_on; o_law; k_head; (case hw => w_witness2)
  k_fill
  refine L2.walk_of (l := PySem.Challenge.rw_amendwarrant_k29_which_version_a_case_fa) (n := 63) (k := 7) (x := "script") (CX := fun _ => L2.CX0) (sp := fun _ => DL.spL) rfl (by decide) rfl ⟨rfl, by decide, by decide⟩ (fun w h Y => PySem.W.kIn_of Y) ?F ?hsp (fun _ _ _ _ _ h => h)
  case hsp => exact fun w H a ns hl _ hS => DL.spL_of hS hl (by kernel_rfl)
  case F =>
    intro w mg fa h KX G hmg
    refine DL.law_end Lawk29.law_ok ?_
    refine' Lawk29.all_mk KX G hmg ?a1 ?l1 ?c1 ?k1 ?a2 ?l2 ?c2 ?k2 ?a3 ?l3 ?c3 ?k3 ?a4 ?l4 ?c4 ?k4 ?a5 ?l5 ?c5 ?k5 ?a6 ?l6 ?c6 ?k6 ?a7 ?l7 ?c7 ?k7 ?a8 ?l8 ?c8 ?k8 ?a9 ?l9 ?c9 ?k9 ?a10 ?l10 ?c10 ?k10 ?a11 ?l11 ?c11 ?k11 ?a12 ?l12 ?c12 ?k12 ?a13 ?l13 ?c13 ?k13 ?a14 ?l14 ?c14 ?k14 ?a15 ?l15 ?c15 ?k15 ?z1 ?z2 ?z3 ?z4 ?z5 ?z6 ?z7 ?z8 ?z9 ?z10
    (case a1 => k_is); (case l1 => k_is); (case c1 => k_is); (case k1 => k_is); (case a2 => k_is); (case l2 => k_is); (case c2 => k_is); (case k2 => k_is); (case a3 => k_is); (case l3 => k_is); (case c3 => k_is); (case k3 => k_is); (case a4 => k_is); (case l4 => k_is); (case c4 => k_is); (case k4 => k_is); (case a5 => k_is); (case l5 => k_is); (case c5 => k_is); (case k5 => k_is); (case a6 => k_is); (case l6 => k_is); (case c6 => k_is); (case k6 => k_is); (case a7 => k_is); (case l7 => k_is); (case c7 => k_is); (case k7 => k_is); (case a8 => k_is); (case l8 => k_is); (case c8 => k_is); (case k8 => k_is); (case a9 => k_is); (case l9 => k_is); (case c9 => k_is); (case k9 => k_is); (case a10 => k_is); (case l10 => k_is); (case c10 => k_is); (case k10 => k_is); (case a11 => k_is); (case l11 => k_is); (case c11 => k_is); (case k11 => k_is); (case a12 => k_is); (case l12 => k_is); (case c12 => k_is); (case k12 => k_is); (case a13 => k_is); (case l13 => k_is); (case c13 => k_is); (case k13 => k_is); (case a14 => k_is); (case l14 => k_is); (case c14 => k_is); (case k14 => k_is); (case a15 => k_is); (case l15 => k_is); (case c15 => k_is); (case k15 => k_is); (case z1 => k_is); (case z2 => k_is); (case z3 => k_is); (case z4 => k_is); (case z5 => k_is); (case z6 => k_is); (case z7 => k_is); (case z8 => k_is); (case z9 => k_is); (case z10 => k_is)

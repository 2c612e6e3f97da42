import PyProof.Rows.All
import Wide.All
import OpenK.AllK
import Wide.FinOn
import PySem.Challenge.RW_amendwarrant_k39_steps_of_rates
import HandS.ForMost
import HandS.TupAny
import HandS.Deep
import HandS.IsInst
import HandS.Wide
import KE.DataCmp
import KE.SortData
import HandS.More
import HandS.Flow
import HandS.TupLe
import HandS.Small
import HandS.Style
import HandS.Conv
import HandS.Codes
import HandS.Iter
import HandS.Dict
import HandS.Zip
import KE.GoesMore
import KE.GoesZip
import KE.KTurns
import HandS.SetFor
import HandS.Strs
set_option Elab.async false
set_option linter.all false
set_option maxRecDepth 100000
/-! DL: a layer of plain data over the hand layer. -/
namespace DL
open PySem PySem.Spec PyProof.Rows L2
abbrev SS := L2.St

abbrev D := PyData
/-- what a slot holds: nothing known, a value for good, a list or dict that this slot alone holds, one that is being walked -/
inductive Sl where
  | em | fz (d : D) | ow (d : D) | lk (d : D)
/-- what an expression gives: a value for good, a new list or dict, what slot i holds -/
inductive Rs where
  | fz (d : D) | ow (d : D) | nm (i : Nat)
inductive R (α : Type) where
  | ok (a : α) (ρ : List Sl) | bad
abbrev M (α : Type) := List Sl → R α
def bd {α β : Type} (m : M α) (k : α → M β) : M β := fun ρ => match m ρ with
  | .ok a ρ' => k a ρ'
  | .bad => .bad
def pr {α : Type} (a : α) : M α := fun ρ => .ok a ρ
def opt {α : Type} (o : Option α) : M α := fun ρ => match o with
  | some a => .ok a ρ
  | none => .bad
inductive SR where
  | nx (ρ : List Sl) | rt (r : Rs) (ρ : List Sl) | bk (ρ : List Sl) | ct (ρ : List Sl) | bad
abbrev DS := List Sl → SR

/-! ### values -/
def kD : Key → D
  | .inl i => .int i
  | .inr x => .str x
mutual
inductive Rp (K : PySem.W.Frag) (F : Hp) : V → D → Prop
  | non : Rp K F .non .none
  | bl (b : Bool) : Rp K F (.bl b) (.bool b)
  | int (i : Int) : Rp K F (.int i) (.int i)
  | str (x : Str) : Rp K F (.str x) (.str x)
  | lst {a : Addr} {xs : List V} {ds : List D} : Rd F a (.lst xs) → RpA K F xs ds → Rp K F (.ref a) (.list ds)
  | tup {a : Addr} {xs : List V} {ds : List D} : SqT K F a xs → RpA K F xs ds → Rp K F (.ref a) (.tuple ds)
  | dct {a : Addr} {kvs : List (Key × V)} {ds : List (D × D)} : F a = some (.dK kvs) → RpK K F kvs ds → Rp K F (.ref a) (.dict ds)
inductive RpA (K : PySem.W.Frag) (F : Hp) : List V → List D → Prop
  | nil : RpA K F [] []
  | cons {v : V} {vs : List V} {d : D} {ds : List D} : Rp K F v d → RpA K F vs ds → RpA K F (v :: vs) (d :: ds)
inductive RpK (K : PySem.W.Frag) (F : Hp) : List (Key × V) → List (D × D) → Prop
  | nil : RpK K F [] []
  | cons {k : Key} {v : V} {vs : List (Key × V)} {d : D} {ds : List (D × D)} : Rp K F v d → RpK K F vs ds → RpK K F ((k, v) :: vs) ((kD k, d) :: ds)
end
theorem sqL_mono {K : PySem.W.Frag} {F F' : Hp} {a : Addr} {xs : List V} (e : Same F F') (h : SqL K F a xs) : SqL K F' a xs := e.seq h
theorem rd_mono {F F' : Hp} {a : Addr} {u : HO} (e : Same F F') (h : Rd F a u) : Rd F' a u := by
  rcases h with h | ⟨o, h⟩
  · exact .inl (e _ _ h)
  · exact .inr ⟨o, e _ _ h⟩
theorem sqT_mono {K : PySem.W.Frag} {F F' : Hp} {a : Addr} {xs : List V} (e : Same F F') (h : SqT K F a xs) : SqT K F' a xs := by
  rcases h with (h | ⟨o, h⟩) | h
  · exact .inl (.inl (e _ _ h))
  · exact .inl (.inr ⟨o, e _ _ h⟩)
  · exact .inr h
mutual
theorem Rp.mono {K : PySem.W.Frag} {F F' : Hp} (e : Same F F') : ∀ {v : V} {d : D}, Rp K F v d → Rp K F' v d
  | _, _, .non => .non
  | _, _, .bl b => .bl b
  | _, _, .int i => .int i
  | _, _, .str x => .str x
  | _, _, .lst h t => .lst (rd_mono e h) (RpA.mono e t)
  | _, _, .tup h t => .tup (sqT_mono e h) (RpA.mono e t)
  | _, _, .dct h t => .dct (e _ _ h) (RpK.mono e t)
theorem RpA.mono {K : PySem.W.Frag} {F F' : Hp} (e : Same F F') : ∀ {v : List V} {d : List D}, RpA K F v d → RpA K F' v d
  | _, _, .nil => .nil
  | _, _, .cons h t => .cons (Rp.mono e h) (RpA.mono e t)
theorem RpK.mono {K : PySem.W.Frag} {F F' : Hp} (e : Same F F') : ∀ {v : List (Key × V)} {d : List (D × D)}, RpK K F v d → RpK K F' v d
  | _, _, .nil => .nil
  | _, _, .cons h t => .cons (Rp.mono e h) (RpK.mono e t)
end
section
variable {K : PySem.W.Frag} {F F' H H' : Hp}
theorem RpA.length : ∀ {vs : List V} {ds : List D}, RpA K F vs ds → vs.length = ds.length
  | _, _, .nil => rfl
  | _, _, .cons _ t => by rw [List.length_cons, List.length_cons, t.length]
theorem RpA.get : ∀ {vs : List V} {ds : List D} {i : Nat} {v : V} {d : D}, RpA K F vs ds → vs[i]? = some v → ds[i]? = some d → Rp K F v d
  | _, _, _, _, _, .nil, h, _ => by simp at h
  | _, _, 0, _, _, .cons h _, e, e' => by
    simp at e e'
    rw [← e, ← e']; exact h
  | _, _, i + 1, _, _, .cons _ t, e, e' => t.get (i := i) (by simpa using e) (by simpa using e')
theorem RpA.app : ∀ {vs vs' : List V} {ds ds' : List D}, RpA K F vs ds → RpA K F vs' ds' → RpA K F (vs ++ vs') (ds ++ ds')
  | _, _, _, _, .nil, h => h
  | _, _, _, _, .cons h t, h' => .cons h (t.app h')
theorem RpA.one {v : V} {d : D} (h : Rp K F v d) : RpA K F [v] [d] := .cons h .nil
theorem RpA.drop : ∀ {vs : List V} {ds : List D} (n : Nat), RpA K F vs ds → RpA K F (vs.drop n) (ds.drop n)
  | _, _, 0, h => h
  | _, _, _ + 1, .nil => .nil
  | _, _, n + 1, .cons _ t => t.drop n
theorem RpA.take : ∀ {vs : List V} {ds : List D} (n : Nat), RpA K F vs ds → RpA K F (vs.take n) (ds.take n)
  | _, _, 0, _ => .nil
  | _, _, _ + 1, .nil => .nil
  | _, _, n + 1, .cons h t => .cons h (t.take n)
theorem RpA.reverse {vs : List V} {ds : List D} (h : RpA K F vs ds) : RpA K F vs.reverse ds.reverse := by
  induction vs generalizing ds with
  | nil => cases h; exact .nil
  | cons v vs ih =>
    cases h with
    | cons h t => rw [List.reverse_cons, List.reverse_cons]; exact (ih t).app (.one h)
theorem RpA.set {i : Nat} {v : V} {d : D} (h : Rp K F v d) : ∀ {vs : List V} {ds : List D} (i : Nat), RpA K F vs ds → RpA K F (vs.set i v) (ds.set i d)
  | _, _, _, .nil => .nil
  | _, _, 0, .cons _ t => .cons h t
  | _, _, i + 1, .cons q t => .cons q (RpA.set (i := i) h i t)
theorem RpA.erase : ∀ {vs : List V} {ds : List D} (i : Nat), RpA K F vs ds → RpA K F (vs.eraseIdx i) (ds.eraseIdx i)
  | _, _, _, .nil => .nil
  | _, _, 0, .cons _ t => t
  | _, _, i + 1, .cons q t => .cons q (t.erase i)
theorem RpA.ints : ∀ {vs : List V} {ns : List Int}, RpA K F vs (ns.map .int) → vs = ns.map .int
  | _, [], h => by cases h; rfl
  | _, n :: ns, h => by
    cases h with
    | cons h t => cases h; rw [List.map_cons, t.ints]
theorem RpA.of_ints : ∀ (ns : List Int), RpA K F (ns.map .int) (ns.map .int)
  | [] => .nil
  | n :: ns => .cons (.int n) (RpA.of_ints ns)
theorem RpA.bools : ∀ {vs : List V} {ns : List Bool}, RpA K F vs (ns.map .bool) → vs = ns.map .bl
  | _, [], h => by cases h; rfl
  | _, n :: ns, h => by
    cases h with
    | cons h t => cases h; rw [List.map_cons, t.bools]
theorem RpA.strs : ∀ {vs : List V} {ns : List Str}, RpA K F vs (ns.map .str) → vs = ns.map .str
  | _, [], h => by cases h; rfl
  | _, n :: ns, h => by
    cases h with
    | cons h t => cases h; rw [List.map_cons, t.strs]
theorem RpA.of_strs : ∀ (ns : List Str), RpA K F (ns.map .str) (ns.map .str)
  | [] => .nil
  | n :: ns => .cons (.str n) (RpA.of_strs ns)
theorem RpK.length : ∀ {vs : List (Key × V)} {ds : List (D × D)}, RpK K F vs ds → vs.length = ds.length
  | _, _, .nil => rfl
  | _, _, .cons _ t => by rw [List.length_cons, List.length_cons, t.length]

/-- the list or dict at a, as it stands now -/
def Ob (K : PySem.W.Frag) (F H : Hp) (a : Addr) : D → Prop
  | .list ds => ∃ vs, H a = some (.lst vs) ∧ RpA K F vs ds
  | .dict ds => ∃ kvs, H a = some (.dK kvs) ∧ RpK K F kvs ds
  | _ => False
theorem Ob.some {a : Addr} {d : D} (h : Ob K F H a d) : ∃ o, H a = some o := by
  cases d with
  | list ds => obtain ⟨vs, e, _⟩ := h; exact ⟨_, e⟩
  | dict ds => obtain ⟨vs, e, _⟩ := h; exact ⟨_, e⟩
  | _ => exact h.elim
theorem Ob.ne {a : Addr} {d : D} (h : Ob K F H a d) : H a ≠ none := by
  obtain ⟨o, e⟩ := h.some
  rw [e]; exact fun z => nomatch z
theorem Ob.mono {a : Addr} {d : D} (h : Ob K F H a d) (e : Same F F') (eh : H' a = H a) : Ob K F' H' a d := by
  cases d with
  | list ds => obtain ⟨vs, q, r⟩ := h; exact ⟨vs, eh.trans q, r.mono e⟩
  | dict ds => obtain ⟨vs, q, r⟩ := h; exact ⟨vs, eh.trans q, r.mono e⟩
  | _ => exact h.elim
/-- frozen: the object is among the frozen ones -/
theorem Ob.rp {a : Addr} {d : D} (h : Ob K F H a d) (e : Same F F') (ef : F' a = H a) : Rp K F' (.ref a) d := by
  cases d with
  | list ds => obtain ⟨vs, q, r⟩ := h; exact .lst (.inl (ef.trans q)) (r.mono e)
  | dict ds => obtain ⟨vs, q, r⟩ := h; exact .dct (ef.trans q) (r.mono e)
  | _ => exact h.elim

/-! ### the state -/
def SltR (K : PySem.W.Frag) (F H : Hp) (ov : Option (Option V)) : Sl → Prop
  | .em => True
  | .fz d => ∃ v, ov = some (some v) ∧ Rp K F v d
  | .ow d => ∃ a, ov = some (some (.ref a)) ∧ F a = none ∧ Ob K F H a d
  | .lk d => ∃ a, ov = some (some (.ref a)) ∧ F a = none ∧ Ob K F H a d
def OwAt (σ : SS) (ρ : List Sl) (i : Nat) (a : Addr) : Prop := σ[i]? = some (some (.ref a)) ∧ ∃ d, ρ[i]? = some (.ow d)
def LkAt (σ : SS) (ρ : List Sl) (i : Nat) (a : Addr) : Prop := σ[i]? = some (some (.ref a)) ∧ ∃ d, ρ[i]? = some (.lk d)
def HdAt (σ : SS) (ρ : List Sl) (i : Nat) (a : Addr) : Prop := OwAt σ ρ i a ∨ LkAt σ ρ i a
structure Sta (K : PySem.W.Frag) (F H : Hp) (σ : SS) (ρ : List Sl) : Prop where
  le : Same F H
  len : σ.length = ρ.length
  sl : ∀ (i : Nat) (s : Sl), ρ[i]? = some s → SltR K F H σ[i]? s
  dj : ∀ (i j : Nat) (a : Addr), HdAt σ ρ i a → HdAt σ ρ j a → i = j
structure Ext (K : PySem.W.Frag) (F H : Hp) (σ : SS) (ρ : List Sl) (F' H' : Hp) (σ' : SS) (ρ' : List Sl) : Prop where
  st : Sta K F' H' σ' ρ'
  fr : Same F F'
  kp : ∀ b o, H b = some o → (∀ i, ¬ OwAt σ ρ i b) → H' b = some o
  nf : ∀ b, H b ≠ none → (∀ i, ¬ HdAt σ ρ i b) → F b = none → F' b = none
  gr : ∀ b, H b ≠ none → H' b ≠ none
  ow : ∀ i b, OwAt σ' ρ' i b → OwAt σ ρ i b ∨ H b = none
  lk : ∀ i b, LkAt σ' ρ' i b → HdAt σ ρ i b ∨ H b = none
section
variable {σ σ' σ2 : SS} {ρ ρ' ρ2 : List Sl} {F2 H2 : Hp}
theorem Sta.held (h : Sta K F H σ ρ) {i : Nat} {a : Addr} (e : HdAt σ ρ i a) : F a = none ∧ ∃ d, Ob K F H a d := by
  rcases e with ⟨e, d, q⟩ | ⟨e, d, q⟩
  · obtain ⟨b, e1, e2, e3⟩ := h.sl i _ q
    rw [e] at e1; cases e1
    exact ⟨e2, d, e3⟩
  · obtain ⟨b, e1, e2, e3⟩ := h.sl i _ q
    rw [e] at e1; cases e1
    exact ⟨e2, d, e3⟩
theorem Ext.refl (h : Sta K F H σ ρ) : Ext K F H σ ρ F H σ ρ :=
  ⟨h, Same.refl _, fun _ _ e _ => e, fun _ _ _ e => e, fun _ e => e, fun _ _ e => .inl e, fun _ _ e => .inl (.inr e)⟩
theorem Ext.hd (x : Ext K F H σ ρ F' H' σ' ρ') {i : Nat} {b : Addr} (h : HdAt σ' ρ' i b) : HdAt σ ρ i b ∨ H b = none := by
  rcases h with h | h
  · exact (x.ow i b h).imp .inl id
  · exact x.lk i b h
theorem Ext.back (x : Ext K F H σ ρ F' H' σ' ρ') {b : Addr} (h : H' b = none) : H b = none := by
  cases e : H b with
  | none => rfl
  | some o => exact absurd h (x.gr b (by rw [e]; exact fun z => nomatch z))
theorem Ext.trans (x : Ext K F H σ ρ F' H' σ' ρ') (y : Ext K F' H' σ' ρ' F2 H2 σ2 ρ2) : Ext K F H σ ρ F2 H2 σ2 ρ2 where
  st := y.st
  fr := x.fr.trans y.fr
  kp := fun b o e n => y.kp b o (x.kp b o e n) fun i q => by
    rcases x.ow i b q with z | z
    · exact n i z
    · rw [z] at e; cases e
  nf := fun b e n q => y.nf b (x.gr b e) (fun i z => by
    rcases x.hd z with z | z
    · exact n i z
    · exact e z) (x.nf b e n q)
  gr := fun b e => y.gr b (x.gr b e)
  ow := fun i b q => by
    rcases y.ow i b q with z | z
    · exact x.ow i b z
    · exact .inr (x.back z)
  lk := fun i b q => by
    rcases y.lk i b q with z | z
    · exact x.hd z
    · exact .inr (x.back z)

/-! ### results -/
def RsR (K : PySem.W.Frag) (H₀ F H : Hp) (σ : SS) (ρ : List Sl) (v : V) : Rs → Prop
  | .fz d => Rp K F v d
  | .ow d => ∃ a, v = .ref a ∧ H₀ a = none ∧ F a = none ∧ Ob K F H a d ∧ ∀ i, ¬ HdAt σ ρ i a
  | .nm i => σ[i]? = some (some v)
theorem RsR.ext {H₀ : Hp} {v : V} {r : Rs} (h : RsR K H₀ F H σ ρ v r) (x : Ext K F H σ ρ F' H' σ ρ') : RsR K H₀ F' H' σ ρ' v r := by
  cases r with
  | fz d => exact Rp.mono x.fr h
  | nm i => exact h
  | ow d =>
    obtain ⟨a, e, h0, hf, ho, hd⟩ := h
    obtain ⟨o, eo⟩ := ho.some
    have ek := x.kp a o eo fun i q => hd i (.inl q)
    refine ⟨a, e, h0, x.nf a ho.ne hd hf, ho.mono x.fr (ek.trans eo.symm), fun i q => ?_⟩
    rcases x.hd q with z | z
    · exact hd i z
    · exact ho.ne z
theorem RsR.base {H₀ H₁ : Hp} {v : V} {r : Rs} (h : RsR K H₁ F H σ ρ v r) (b : ∀ a, H₁ a = none → H₀ a = none) : RsR K H₀ F H σ ρ v r := by
  cases r with
  | fz d => exact h
  | nm i => exact h
  | ow d =>
    obtain ⟨a, e, h0, q⟩ := h
    exact ⟨a, e, b a h0, q⟩

/-! ### reading and freezing what a result is -/
def look (r : Rs) : M D := fun ρ => match r with
  | .fz d => .ok d ρ
  | .ow d => .ok d ρ
  | .nm i => match ρ[i]? with
    | some (.fz d) => .ok d ρ
    | some (.ow d) => .ok d ρ
    | some (.lk d) => .ok d ρ
    | _ => .bad
def frz (r : Rs) : M D := fun ρ => match r with
  | .fz d => .ok d ρ
  | .ow d => .ok d ρ
  | .nm i => match ρ[i]? with
    | some (.fz d) => .ok d ρ
    | some (.ow d) => .ok d (ρ.set i (.fz d))
    | some (.lk d) => .ok d (ρ.set i (.fz d))
    | _ => .bad
/-- v reads as d now -/
def Vw (K : PySem.W.Frag) (F H : Hp) (v : V) (d : D) : Prop := Rp K F v d ∨ ∃ a, v = .ref a ∧ Ob K F H a d
theorem look_ok {H₀ : Hp} {v : V} {r : Rs} {d : D} (s : Sta K F H σ ρ) (h : RsR K H₀ F H σ ρ v r) (e : look r ρ = .ok d ρ') : ρ' = ρ ∧ Vw K F H v d := by
  cases r with
  | fz d' => cases e; exact ⟨rfl, .inl h⟩
  | ow d' => obtain ⟨a, e1, _, _, ho, _⟩ := h; cases e; exact ⟨rfl, .inr ⟨a, e1, ho⟩⟩
  | nm i =>
    have h : σ[i]? = some (some v) := h
    unfold look at e
    simp only at e
    cases q : ρ[i]? with
    | none => rw [q] at e; cases e
    | some sl =>
      rw [q] at e
      have z := s.sl i sl q
      cases sl with
      | em => cases e
      | fz d' =>
        cases e
        obtain ⟨w, e1, e2⟩ := z
        rw [h] at e1; cases e1
        exact ⟨rfl, .inl e2⟩
      | ow d' =>
        cases e
        obtain ⟨a, e1, e2, e3⟩ := z
        rw [h] at e1; cases e1
        exact ⟨rfl, .inr ⟨a, rfl, e3⟩⟩
      | lk d' =>
        cases e
        obtain ⟨a, e1, e2, e3⟩ := z
        rw [h] at e1; cases e1
        exact ⟨rfl, .inr ⟨a, rfl, e3⟩⟩

theorem same_upd {H : Hp} {p : Addr} {o : HO} (h : H p = none) : Same H (upd H p o) := fun b x e => by
  rw [upd_ne (ne_of_none e h)]
  exact e
theorem same_upd_le {F H : Hp} {p : Addr} {o : HO} (s : Same F H) (e : H p = some o) : Same (upd F p o) H := fun b x q => by
  by_cases hb : b = p
  · subst hb; rw [upd_same] at q; cases q; exact e
  · rw [upd_ne hb] at q; exact s b x q
/-- one held slot is frozen -/
theorem Ext.freeze {F₀ H₀ : Hp} {ρ₀ : List Sl} {i : Nat} {a : Addr} {d : D} {s : Sl} (x : Ext K F₀ H₀ σ' ρ₀ F H σ ρ) (hσ : σ[i]? = some (some (.ref a))) (hρ : ρ[i]? = some s) (hs : s = .ow d ∨ s = .lk d) :
    ∃ F', Ext K F₀ H₀ σ' ρ₀ F' H σ (ρ.set i (.fz d)) ∧ Rp K F' (.ref a) d := by
  have hd : HdAt σ ρ i a := by
    rcases hs with e | e
    · exact .inl ⟨hσ, d, by rw [hρ, e]⟩
    · exact .inr ⟨hσ, d, by rw [hρ, e]⟩
  obtain ⟨hf, ho⟩ : F a = none ∧ Ob K F H a d := by
    have z := x.st.sl i s hρ
    rcases hs with e | e <;> subst e <;> obtain ⟨b, e1, e2, e3⟩ := z <;> rw [hσ] at e1 <;> cases e1 <;> exact ⟨e2, e3⟩
  obtain ⟨o, eo⟩ := ho.some
  have sm : Same F (upd F a o) := same_upd hf
  have hi : i < ρ.length := by
    rcases Nat.lt_or_ge i ρ.length with z | z
    · exact z
    · rw [List.getElem?_eq_none z] at hρ; cases hρ
  have rp : Rp K (upd F a o) (.ref a) d := ho.rp sm (by rw [upd_same, eo])
  have back : ∀ j b, HdAt σ (ρ.set i (.fz d)) j b → HdAt σ ρ j b ∧ j ≠ i := fun j b q => by
    rcases q with ⟨e, d', q⟩ | ⟨e, d', q⟩
    · by_cases hj : i = j
      · subst hj; rw [List.getElem?_set_self hi] at q; cases q
      · rw [List.getElem?_set_ne hj] at q; exact ⟨.inl ⟨e, d', q⟩, fun z => hj z.symm⟩
    · by_cases hj : i = j
      · subst hj; rw [List.getElem?_set_self hi] at q; cases q
      · rw [List.getElem?_set_ne hj] at q; exact ⟨.inr ⟨e, d', q⟩, fun z => hj z.symm⟩
  have backO : ∀ j b, OwAt σ (ρ.set i (.fz d)) j b → OwAt σ ρ j b := fun j b ⟨e, d', q⟩ => by
    by_cases hj : i = j
    · subst hj; rw [List.getElem?_set_self hi] at q; cases q
    · rw [List.getElem?_set_ne hj] at q; exact ⟨e, d', q⟩
  have backL : ∀ j b, LkAt σ (ρ.set i (.fz d)) j b → LkAt σ ρ j b := fun j b ⟨e, d', q⟩ => by
    by_cases hj : i = j
    · subst hj; rw [List.getElem?_set_self hi] at q; cases q
    · rw [List.getElem?_set_ne hj] at q; exact ⟨e, d', q⟩
  refine ⟨upd F a o, ⟨⟨same_upd_le x.st.le eo, by rw [List.length_set]; exact x.st.len, fun j sl q => ?_, fun j k b h1 h2 => x.st.dj j k b (back j b h1).1 (back k b h2).1⟩, x.fr.trans sm, x.kp, fun b e n q => ?_, x.gr, fun j b q => x.ow j b (backO j b q), fun j b q => x.lk j b (backL j b q)⟩, rp⟩
  · by_cases hj : i = j
    · subst hj
      rw [List.getElem?_set_self hi] at q; cases q
      exact ⟨_, hσ, rp⟩
    · have q' := q
      rw [List.getElem?_set_ne hj] at q
      have z := x.st.sl j sl q
      cases sl with
      | em => trivial
      | fz d' => obtain ⟨w, e1, e2⟩ := z; exact ⟨w, e1, e2.mono sm⟩
      | ow d' =>
        obtain ⟨b, e1, e2, e3⟩ := z
        have hb : b ≠ a := fun z => by
          subst z
          exact hj (x.st.dj i j _ hd (.inl ⟨e1, d', q⟩))
        exact ⟨b, e1, by rw [upd_ne hb]; exact e2, e3.mono sm rfl⟩
      | lk d' =>
        obtain ⟨b, e1, e2, e3⟩ := z
        have hb : b ≠ a := fun z => by
          subst z
          exact hj (x.st.dj i j _ hd (.inr ⟨e1, d', q⟩))
        exact ⟨b, e1, by rw [upd_ne hb]; exact e2, e3.mono sm rfl⟩
  · have z := x.nf b e n q
    by_cases hb : b = a
    · subst hb
      rcases x.hd hd with y | y
      · exact absurd y (n i)
      · exact absurd y e
    · rw [upd_ne hb]; exact z
/-- a new object is frozen -/
theorem Ext.freezeNew {F₀ H₀ : Hp} {ρ₀ : List Sl} {a : Addr} {d : D} (x : Ext K F₀ H₀ σ' ρ₀ F H σ ρ) (h0 : H₀ a = none) (hf : F a = none) (ho : Ob K F H a d) (hn : ∀ i, ¬ HdAt σ ρ i a) :
    ∃ F', Ext K F₀ H₀ σ' ρ₀ F' H σ ρ ∧ Rp K F' (.ref a) d ∧ Same F F' ∧ ∀ b, b ≠ a → F' b = F b := by
  obtain ⟨o, eo⟩ := ho.some
  have sm : Same F (upd F a o) := same_upd hf
  have rp : Rp K (upd F a o) (.ref a) d := ho.rp sm (by rw [upd_same, eo])
  refine ⟨upd F a o, ⟨⟨same_upd_le x.st.le eo, x.st.len, fun j sl q => ?_, x.st.dj⟩, x.fr.trans sm, x.kp, fun b e n q => ?_, x.gr, x.ow, x.lk⟩, rp, sm, fun b hb => upd_ne hb⟩
  · have z := x.st.sl j sl q
    cases sl with
    | em => trivial
    | fz d' => obtain ⟨w, e1, e2⟩ := z; exact ⟨w, e1, e2.mono sm⟩
    | ow d' =>
      obtain ⟨b, e1, e2, e3⟩ := z
      have hb : b ≠ a := fun z => by subst z; exact hn j (.inl ⟨e1, d', q⟩)
      exact ⟨b, e1, by rw [upd_ne hb]; exact e2, e3.mono sm rfl⟩
    | lk d' =>
      obtain ⟨b, e1, e2, e3⟩ := z
      have hb : b ≠ a := fun z => by subst z; exact hn j (.inr ⟨e1, d', q⟩)
      exact ⟨b, e1, by rw [upd_ne hb]; exact e2, e3.mono sm rfl⟩
  · have z := x.nf b e n q
    by_cases hb : b = a
    · subst hb; exact absurd h0 e
    · rw [upd_ne hb]; exact z
theorem frz_ok {F₀ H₀ : Hp} {ρ₀ : List Sl} {v : V} {r : Rs} {d : D} (x : Ext K F₀ H₀ σ' ρ₀ F H σ ρ) (h : RsR K H₀ F H σ ρ v r) (e : frz r ρ = .ok d ρ') :
    ∃ F', Ext K F₀ H₀ σ' ρ₀ F' H σ ρ' ∧ Rp K F' v d := by
  cases r with
  | fz d' => cases e; exact ⟨F, x, h⟩
  | ow d' =>
    obtain ⟨a, e1, h0, hf, ho, hn⟩ := h
    cases e
    subst e1
    obtain ⟨F', x', rp, _⟩ := x.freezeNew h0 hf ho hn
    exact ⟨F', x', rp⟩
  | nm i =>
    have h : σ[i]? = some (some v) := h
    unfold frz at e
    simp only at e
    cases q : ρ[i]? with
    | none => rw [q] at e; cases e
    | some sl =>
      rw [q] at e
      have z := x.st.sl i sl q
      cases sl with
      | em => cases e
      | fz d' =>
        cases e
        obtain ⟨w, e1, e2⟩ := z
        rw [h] at e1; cases e1
        exact ⟨F, x, e2⟩
      | ow d' =>
        cases e
        obtain ⟨a, e1, e2, e3⟩ := z
        rw [h] at e1; cases e1
        exact x.freeze h q (.inl rfl)
      | lk d' =>
        cases e
        obtain ⟨a, e1, e2, e3⟩ := z
        rw [h] at e1; cases e1
        exact x.freeze h q (.inr rfl)
end
end
end DL

namespace DL
open PySem PySem.Spec PyProof.Rows L2

theorem peWeak {X : Cx} {e : Expr} {t t' : TE} (h : PE X e t) (w : ∀ σ H Q, t' σ H Q → t σ H Q) : PE X e t' :=
  ⟨fun pins s σ H Q I q => h.run pins s σ H Q I (w σ H Q q)⟩
theorem ptWeak {X : Cx} {e : Expr} {t t' : TT} (h : PT X e t) (w : ∀ σ H Q, t' σ H Q → t σ H Q) : PT X e t' :=
  ⟨fun pins s σ H Q I q => h.run pins s σ H Q I (w σ H Q q)⟩
theorem psWeak {X : Cx} {e : Stmt} {t t' : TS} (h : PS X e t) (w : ∀ D σ H, t' D σ H → t D σ H) : PS X e t' :=
  ⟨fun pins s σ H D I q => h.run pins s σ H D I (w D σ H q)⟩
theorem pssWeak {X : Cx} {e : List Stmt} {t t' : TS} (h : PSs X e t) (w : ∀ D σ H, t' D σ H → t D σ H) : PSs X e t' :=
  ⟨fun pins s σ H D I q => h.run pins s σ H D I (w D σ H q)⟩
theorem paWeak {X : Cx} {e : List Expr} {t t' : TA} (h : PA X e t) (w : ∀ σ H Q, t' σ H Q → t σ H Q) : PA X e t' :=
  ⟨fun pos pins s σ H Q I q => h.run pos pins s σ H Q I (w σ H Q q)⟩

/-! ### readings by a function of slots -/
def tSem (K : PySem.W.Frag) (f : M Rs) : TE := fun σ H Q => ∃ F ρ r ρ', Sta K F H σ ρ ∧ f ρ = .ok r ρ' ∧ ∀ F' H' v, Ext K F H σ ρ F' H' σ ρ' → RsR K H F' H' σ ρ' v r → Q v H'
def tSemT (K : PySem.W.Frag) (f : M Bool) : TT := fun σ H Q => ∃ F ρ r ρ', Sta K F H σ ρ ∧ f ρ = .ok r ρ' ∧ ∀ F' H', Ext K F H σ ρ F' H' σ ρ' → Q r H'
/-- several results, the new ones apart -/
structure RsA (K : PySem.W.Frag) (H₀ F H : Hp) (σ : SS) (ρ : List Sl) (vs : List V) (rs : List Rs) : Prop where
  len : vs.length = rs.length
  at_ : ∀ (i : Nat) (v : V) (r : Rs), vs[i]? = some v → rs[i]? = some r → RsR K H₀ F H σ ρ v r
  dj : ∀ (i j : Nat) (a : Addr) (d e : D), vs[i]? = some (.ref a) → rs[i]? = some (.ow d) → vs[j]? = some (.ref a) → rs[j]? = some (.ow e) → i = j
def tSemA (K : PySem.W.Frag) (f : M (List Rs)) : TA := fun σ H Q => ∃ F ρ r ρ', Sta K F H σ ρ ∧ f ρ = .ok r ρ' ∧ ∀ F' H' v, Ext K F H σ ρ F' H' σ ρ' → RsA K H F' H' σ ρ' v r → Q v H'

theorem bd_ok {α β : Type} {m : M α} {k : α → M β} {ρ ρ2 : List Sl} {b : β} (h : bd m k ρ = .ok b ρ2) : ∃ a ρ1, m ρ = .ok a ρ1 ∧ k a ρ1 = .ok b ρ2 := by
  unfold bd at h
  cases e : m ρ with
  | ok a ρ1 => rw [e] at h; exact ⟨a, ρ1, rfl, h⟩
  | bad => rw [e] at h; cases h
theorem opt_ok {α : Type} {o : Option α} {ρ ρ' : List Sl} {a : α} (h : opt o ρ = .ok a ρ') : o = some a ∧ ρ' = ρ := by
  unfold opt at h
  cases o with
  | none => cases h
  | some b => cases h; exact ⟨rfl, rfl⟩
theorem pr_ok {α : Type} {a b : α} {ρ ρ' : List Sl} (h : pr a ρ = .ok b ρ') : b = a ∧ ρ' = ρ := by
  unfold pr at h; cases h; exact ⟨rfl, rfl⟩
section
variable {K : PySem.W.Frag} {F H F' H' : Hp} {σ : SS} {ρ ρ' : List Sl}

/-! ### what a built-in may do: the heap grows -/
structure Grow (F H F' H' : Hp) : Prop where
  fr : Same F F'
  le : Same F' H'
  kp : Same H H'
  nf : ∀ b, H b ≠ none → F b = none → F' b = none
theorem Grow.refl (h : Same F H) : Grow F H F H := ⟨Same.refl _, h, Same.refl _, fun _ _ e => e⟩
theorem Grow.trans {F2 H2 : Hp} (a : Grow F H F' H') (b : Grow F' H' F2 H2) : Grow F H F2 H2 := ⟨a.fr.trans b.fr, b.le, a.kp.trans b.kp, fun c e n => b.nf c (fun z => by
  cases q : H c with
  | none => exact e q
  | some o => rw [a.kp c o q] at z; cases z) (a.nf c e n)⟩
theorem Sta.grow (s : Sta K F H σ ρ) (g : Grow F H F' H') : Ext K F H σ ρ F' H' σ ρ := by
  refine ⟨⟨g.le, s.len, fun i sl q => ?_, s.dj⟩, g.fr, fun b o e _ => g.kp b o e, fun b e _ n => g.nf b e n, fun b e => ?_, fun i b q => .inl q, fun i b q => .inl (.inr q)⟩
  · have z := s.sl i sl q
    cases sl with
    | em => trivial
    | fz d => obtain ⟨v, e, r⟩ := z; exact ⟨v, e, r.mono g.fr⟩
    | ow d =>
      obtain ⟨a, e, n, o⟩ := z
      obtain ⟨ob, eo⟩ := o.some
      exact ⟨a, e, g.nf a o.ne n, o.mono g.fr ((g.kp a ob eo).trans eo.symm)⟩
    | lk d =>
      obtain ⟨a, e, n, o⟩ := z
      obtain ⟨ob, eo⟩ := o.some
      exact ⟨a, e, g.nf a o.ne n, o.mono g.fr ((g.kp a ob eo).trans eo.symm)⟩
  · cases q : H b with
    | none => exact absurd q e
    | some o => rw [g.kp b o q]; exact fun z => nomatch z
/-- what a built-in hands back -/
def ResOk (K : PySem.W.Frag) (H₀ F H : Hp) (v : V) : Rs → Prop
  | .fz d => Rp K F v d
  | .ow d => ∃ a, v = .ref a ∧ H₀ a = none ∧ F a = none ∧ Ob K F H a d
  | .nm _ => False
def NewR (K : PySem.W.Frag) (F H : Hp) (r : Rs) (Q : VK) : Prop := ∀ F' H' v, Grow F H F' H' → ResOk K H F' H' v r → Q v H'
theorem Sta.res {H₀ : Hp} {v : V} {r : Rs} (s : Sta K F H σ ρ) (g : Grow F H F' H') (h : ResOk K H F' H' v r) (b : ∀ a, H a = none → H₀ a = none) : RsR K H₀ F' H' σ ρ v r := by
  cases r with
  | fz d => exact h
  | nm i => exact h.elim
  | ow d =>
    obtain ⟨a, e, h0, n, o⟩ := h
    refine ⟨a, e, b a h0, n, o, fun i q => ?_⟩
    obtain ⟨_, d', o'⟩ := s.held q
    exact o'.ne h0
theorem NewR.same {Q : VK} {v : V} {d : D} (h : NewR K F H (.fz d) Q) (s : Same F H) (r : Rp K F v d) : Q v H := h F H v (Grow.refl s) r
theorem NewR.lst {Q : VK} {ds : List D} {vs : List V} {p : Addr} (h : NewR K F H (.ow (.list ds)) Q) (s : Same F H) (r : RpA K F vs ds) (n : H p = none) : Q (.ref p) (upd H p (.lst vs)) := by
  have fn : F p = none := s.free n
  exact h F _ _ ⟨Same.refl _, s.trans (same_upd n), same_upd n, fun _ _ e => e⟩ ⟨p, rfl, n, fn, vs, upd_same, r⟩
theorem NewR.tup {Q : VK} {ds : List D} {vs : List V} {p : Addr} (h : NewR K F H (.fz (.tuple ds)) Q) (s : Same F H) (r : RpA K F vs ds) (n : H p = none) : Q (.ref p) (upd H p (.tup vs)) := by
  have fn : F p = none := s.free n
  refine h (upd F p (.tup vs)) _ _ ⟨same_upd fn, fun b o e => ?_, same_upd n, fun b e q => ?_⟩ (.tup (.inl (.inl upd_same)) (r.mono (same_upd fn)))
  · by_cases hb : b = p
    · subst hb; rw [upd_same] at e ⊢; exact e
    · rw [upd_ne hb] at e ⊢; exact s b o e
  · have hb : b ≠ p := fun z => e (z ▸ n)
    rw [upd_ne hb]; exact q
theorem NewR.dct {Q : VK} {ds : List (D × D)} {vs : List (Key × V)} {p : Addr} (h : NewR K F H (.ow (.dict ds)) Q) (s : Same F H) (r : RpK K F vs ds) (n : H p = none) : Q (.ref p) (upd H p (.dK vs)) := by
  have fn : F p = none := s.free n
  exact h F _ _ ⟨Same.refl _, s.trans (same_upd n), same_upd n, fun _ _ e => e⟩ ⟨p, rfl, n, fn, vs, upd_same, r⟩

/-! ### views -/
theorem Vw.list {v : V} {ds : List D} (s : Same F H) (h : Vw K F H v (.list ds)) : ∃ a vs, v = .ref a ∧ Rd H a (.lst vs) ∧ RpA K F vs ds := by
  rcases h with h | ⟨a, rfl, vs, e, r⟩
  · cases h with
    | lst h r => exact ⟨_, _, rfl, rd_mono s h, r⟩
  · exact ⟨a, vs, rfl, .inl e, r⟩
theorem Vw.rp {v : V} {d : D} (h : Vw K F H v d) (n : ∀ ds, d ≠ .list ds) (m : ∀ ds, d ≠ .dict ds) : Rp K F v d := by
  rcases h with h | ⟨a, rfl, o⟩
  · exact h
  · cases d with
    | list ds => exact absurd rfl (n ds)
    | dict ds => exact absurd rfl (m ds)
    | _ => exact o.elim
theorem Vw.tuple {v : V} {ds : List D} (s : Same F H) (h : Vw K F H v (.tuple ds)) : ∃ a vs, v = .ref a ∧ SqT K H a vs ∧ RpA K F vs ds := by
  have h1 := h.rp (by intro _ z; cases z) (by intro _ z; cases z)
  cases h1 with
  | tup h2 r => exact ⟨_, _, rfl, sqT_mono s h2, r⟩
theorem Vw.int {v : V} {i : Int} (h : Vw K F H v (.int i)) : v = .int i := by
  have h := h.rp (by intro _ z; cases z) (by intro _ z; cases z)
  cases h; rfl
theorem Vw.str {v : V} {i : Str} (h : Vw K F H v (.str i)) : v = .str i := by
  have h := h.rp (by intro _ z; cases z) (by intro _ z; cases z)
  cases h; rfl
theorem Vw.bool {v : V} {i : Bool} (h : Vw K F H v (.bool i)) : v = .bl i := by
  have h := h.rp (by intro _ z; cases z) (by intro _ z; cases z)
  cases h; rfl
theorem Vw.none {v : V} (h : Vw K F H v .none) : v = .non := by
  have h := h.rp (by intro _ z; cases z) (by intro _ z; cases z)
  cases h; rfl
theorem Vw.dict {v : V} {ds : List (D × D)} (s : Same F H) (h : Vw K F H v (.dict ds)) : ∃ a kvs, v = .ref a ∧ H a = some (.dK kvs) ∧ RpK K F kvs ds := by
  rcases h with h | ⟨a, rfl, vs, e, r⟩
  · cases h with
    | dct h r => exact ⟨_, _, rfl, s _ _ h, r⟩
  · exact ⟨a, vs, rfl, e, r⟩
theorem Vw.ext {v : V} {d : D} {ρ2 : List Sl} {F2 H2 : Hp} (h : Vw K F H v d) (g : Grow F H F2 H2) : Vw K F2 H2 v d := by
  rcases h with h | ⟨a, rfl, o⟩
  · exact .inl (h.mono g.fr)
  · obtain ⟨ob, eo⟩ := o.some
    exact .inr ⟨a, rfl, o.mono g.fr ((g.kp a ob eo).trans eo.symm)⟩

/-! ### names and constants -/
def dVar (i : Nat) : M Rs := fun ρ => match ρ[i]? with
  | some (.fz d) => .ok (.fz d) ρ
  | some (.ow _) => .ok (.nm i) ρ
  | some (.lk _) => .ok (.nm i) ρ
  | _ => .bad
theorem pv' {X : Cx} (i : Nat) {x : Str} {pos : Pos} (hN : X.N[i]? = some x := by rfl) (hv : Vis X.env.scope x := by first | exact Or.inl rfl | exact Or.inr (Or.inl rfl) | exact Or.inr (Or.inr rfl)) (hd : (x == ("__debug__" : Str)) = false := by decide)
    (hcd : (x == ("__classdict__" : Str)) = false := by decide) : PE X (.Name x pos) (tSem X.K (dVar i)) := by
  refine peWeak (pe_var hN hv hd hcd) fun σ H Q h => ?_
  obtain ⟨F, ρ, r, ρ', s, e, k⟩ := h
  unfold dVar at e
  cases q : ρ[i]? with
  | none => rw [q] at e; cases e
  | some sl =>
    rw [q] at e
    have z := s.sl i sl q
    cases sl with
    | em => cases e
    | fz d => cases e; obtain ⟨v, e1, e2⟩ := z; exact ⟨v, e1, k F H v (Ext.refl s) e2⟩
    | ow d => cases e; obtain ⟨a, e1, e2, e3⟩ := z; exact ⟨_, e1, k F H _ (Ext.refl s) e1⟩
    | lk d => cases e; obtain ⟨a, e1, e2, e3⟩ := z; exact ⟨_, e1, k F H _ (Ext.refl s) e1⟩
def dC (d : D) : M Rs := pr (.fz d)
theorem sem_C {d : D} {v : V} (h : ∀ K F, Rp K F v d) : ∀ σ H Q, tSem K (dC d) σ H Q → tC v σ H Q := fun σ H Q ⟨F, ρ, r, ρ', s, e, k⟩ => by
  cases e; exact k F H v (Ext.refl s) (h K F)
section
variable {X : Cx}
theorem ci {i : Int} {j : Nat} {pos : Pos} : PE X (.Constant (.int i) j pos) (tSem X.K (dC (.int i))) := peWeak pe_int (sem_C fun _ _ => .int i)
theorem cb {b : Bool} {j : Nat} {pos : Pos} : PE X (.Constant (.bool b) j pos) (tSem X.K (dC (.bool b))) := peWeak pe_bl (sem_C fun _ _ => .bl b)
theorem cn {j : Nat} {pos : Pos} : PE X (.Constant .none j pos) (tSem X.K (dC .none)) := peWeak pe_non (sem_C fun _ _ => .non)
theorem cs {x : Str} {j : Nat} {pos : Pos} : PE X (.Constant (.str x) j pos) (tSem X.K (dC (.str x))) := peWeak pe_str (sem_C fun _ _ => .str x)
/-- a constant of the module -/
theorem cg {x : Str} {d : D} {v : V} {u : Value} {pos : Pos} (hg : Gl X x) (hm : X.mg x = some u) (r : RelV v u) (hr : ∀ K F, Rp K F v d) (hd : (x == ("__debug__" : Str)) = false := by decide) : PE X (.Name x pos) (tSem X.K (dC d)) := peWeak (pe_glob hg hm r hd) (sem_C hr)
end

/-! ### two places -/
abbrev G2 := D → D → Option Rs
def Op2 (K : PySem.W.Frag) (r : R2) (g : G2) : Prop := ∀ F H x y dx dy res Q, Same F H → Vw K F H x dx → Vw K F H y dy → g dx dy = some res → NewR K F H res Q → r x y H Q
def dOp2 (g : G2) (fa fb : M Rs) : M Rs := bd fa fun ra => bd fb fun rb => bd (look ra) fun da => bd (look rb) fun db => opt (g da db)
theorem sem_op2 {r : R2} {g : G2} {fa fb : M Rs} (h : Op2 K r g) : ∀ σ H Q, tSem K (dOp2 g fa fb) σ H Q → tOp r (tSem K fa) (tSem K fb) σ H Q := fun σ H Q ⟨F, ρ, res, ρ', s, e, k⟩ => by
  obtain ⟨ra, ρ1, e1, e⟩ := bd_ok e
  obtain ⟨rb, ρ2, e2, e⟩ := bd_ok e
  obtain ⟨da, ρ3, e3, e⟩ := bd_ok e
  obtain ⟨db, ρ4, e4, e⟩ := bd_ok e
  obtain ⟨eg, e5⟩ := opt_ok e
  refine ⟨F, ρ, ra, ρ1, s, e1, fun F1 H1 x x1 r1 => ⟨F1, ρ1, rb, ρ2, x1.st, e2, fun F2 H2 y x2 r2 => ?_⟩⟩
  have r1' := r1.ext x2
  obtain ⟨e3', w1⟩ := look_ok x2.st r1' e3
  subst e3'
  obtain ⟨e4', w2⟩ := look_ok x2.st r2 e4
  subst e4'
  subst e5
  refine h F2 H2 x y da db res Q x2.st.le w1 w2 eg fun F3 H3 v g hr => ?_
  have x3 := x2.st.grow g
  exact k F3 H3 v ((x1.trans x2).trans x3) (x2.st.res g hr fun a z => (x1.trans x2).back z)
theorem sem_op2T {r : R2} {g : D → D → Option Bool} {fa fb : M Rs} (h : Op2 K r (fun a b => (g a b).map fun k => .fz (.bool k))) :
    ∀ σ H Q, tSemT K (bd fa fun ra => bd fb fun rb => bd (look ra) fun da => bd (look rb) fun db => opt (g da db)) σ H Q → tTest (tOp r (tSem K fa) (tSem K fb)) σ H Q := fun σ H Q ⟨F, ρ, res, ρ', s, e, k⟩ => by
  refine sem_op2 h σ H _ ⟨F, ρ, .fz (.bool res), ρ', s, ?_, fun F' H' v x r => ?_⟩
  · obtain ⟨ra, ρ1, e1, e⟩ := bd_ok e
    obtain ⟨rb, ρ2, e2, e⟩ := bd_ok e
    obtain ⟨da, ρ3, e3, e⟩ := bd_ok e
    obtain ⟨db, ρ4, e4, e⟩ := bd_ok e
    obtain ⟨eg, e5⟩ := opt_ok e
    unfold dOp2 bd
    simp only [e1, e2, e3, e4, eg, e5, opt, Option.map]
  · have r : Rp K F' v (.bool res) := r
    cases r
    exact ⟨res, rfl, k F' H' x⟩
def dOp2T (g : D → D → Option Bool) (fa fb : M Rs) : M Bool := bd fa fun ra => bd fb fun rb => bd (look ra) fun da => bd (look rb) fun db => opt (g da db)
/-! ### one place -/
def Op1 (K : PySem.W.Frag) (r : V → Hp → VK → Prop) (g : D → Option Rs) : Prop := ∀ F H x dx res Q, Same F H → Vw K F H x dx → g dx = some res → NewR K F H res Q → r x H Q
def dOp1 (g : D → Option Rs) (fa : M Rs) : M Rs := bd fa fun ra => bd (look ra) fun da => opt (g da)
theorem sem_op1 {r : V → Hp → VK → Prop} {g : D → Option Rs} {fa : M Rs} (h : Op1 K r g) : ∀ σ H Q, tSem K (dOp1 g fa) σ H Q → tUn r (tSem K fa) σ H Q := fun σ H Q ⟨F, ρ, res, ρ', s, e, k⟩ => by
  obtain ⟨ra, ρ1, e1, e⟩ := bd_ok e
  obtain ⟨da, ρ3, e3, e⟩ := bd_ok e
  obtain ⟨eg, e5⟩ := opt_ok e
  refine ⟨F, ρ, ra, ρ1, s, e1, fun F1 H1 x x1 r1 => ?_⟩
  obtain ⟨e3', w1⟩ := look_ok x1.st r1 e3
  subst e3'
  subst e5
  refine h F1 H1 x da res Q x1.st.le w1 eg fun F3 H3 v g hr => ?_
  exact k F3 H3 v (x1.trans (x1.st.grow g)) (x1.st.res g hr fun a z => x1.back z)
/-! ### arguments -/
def dNil : M (List Rs) := pr []
def dCons (f : M Rs) (g : M (List Rs)) : M (List Rs) := bd f fun r => bd g fun rs => pr (r :: rs)
theorem sem_nil : ∀ σ H Q, tSemA K dNil σ H Q → tNil σ H Q := fun σ H Q ⟨F, ρ, r, ρ', s, e, k⟩ => by
  cases e
  exact k F H [] (Ext.refl s) ⟨rfl, fun i v r h => by simp at h, fun i j a d e h => by simp at h⟩
theorem sem_cons {f : M Rs} {g : M (List Rs)} : ∀ σ H Q, tSemA K (dCons f g) σ H Q → tCons (tSem K f) (tSemA K g) σ H Q := fun σ H Q ⟨F, ρ, r, ρ', s, e, k⟩ => by
  obtain ⟨r1, ρ1, e1, e⟩ := bd_ok e
  obtain ⟨rs, ρ2, e2, e⟩ := bd_ok e
  obtain ⟨e3, e4⟩ := pr_ok e
  subst e3; subst e4
  refine ⟨F, ρ, r1, ρ1, s, e1, fun F1 H1 v x1 q1 => ⟨F1, ρ1, rs, ρ', x1.st, e2, fun F2 H2 vs x2 q2 => ?_⟩⟩
  refine k F2 H2 (v :: vs) (x1.trans x2) ⟨by rw [List.length_cons, List.length_cons, q2.len], fun i w r h1 h2 => ?_, fun i j a d e h1 h2 h3 h4 => ?_⟩
  · cases i with
    | zero =>
      simp at h1 h2
      subst h1; subst h2
      exact q1.ext x2
    | succ i => exact (q2.at_ i w r (by simpa using h1) (by simpa using h2)).base fun a z => x1.back z
  · have cross : ∀ (j : Nat) (a : Addr) (d e : D), v = .ref a → r1 = .ow d → vs[j]? = some (.ref a) → rs[j]? = some (.ow e) → False := fun j' a' d' e' g1 g2 g3 g4 => by
      rw [g2] at q1
      obtain ⟨b, eb, _, _, ob, _⟩ := q1
      obtain ⟨c, ec, hc, _⟩ := q2.at_ j' _ _ g3 g4
      rw [g1] at eb
      cases eb
      cases ec
      exact ob.ne hc
    cases i with
    | zero =>
      cases j with
      | zero => rfl
      | succ j =>
        simp at h1 h2
        exact (cross j a d e h1 h2 (by simpa using h3) (by simpa using h4)).elim
    | succ i =>
      cases j with
      | zero =>
        simp at h3 h4
        exact (cross i a e d h3 h4 (by simpa using h1) (by simpa using h2)).elim
      | succ j => rw [q2.dj i j a d e (by simpa using h1) (by simpa using h2) (by simpa using h3) (by simpa using h4)]
section
variable {X : Cx} {e : Expr} {es : List Expr} {f : M Rs} {g : M (List Rs)}
theorem an : PA X [] (tSemA X.K dNil) := paWeak pa_nil sem_nil
theorem ac (ha : PE X e (tSem X.K f)) (hr : PA X es (tSemA X.K g)) (hs : starEach (e :: es) X.env = (false, eval e X.env) :: starEach es X.env := by rfl) : PA X (e :: es) (tSemA X.K (dCons f g)) := paWeak (pa_cons ha hr hs) sem_cons
end
def lookA : List Rs → M (List D)
  | [] => pr []
  | r :: rs => bd (look r) fun d => bd (lookA rs) fun ds => pr (d :: ds)
def frzA : List Rs → M (List D)
  | [] => pr []
  | r :: rs => bd (frz r) fun d => bd (frzA rs) fun ds => pr (d :: ds)
/-- values that read as data now -/
def VwA (K : PySem.W.Frag) (F H : Hp) : List V → List D → Prop
  | [], [] => True
  | v :: vs, d :: ds => Vw K F H v d ∧ VwA K F H vs ds
  | _, _ => False
theorem RsA.tail {H₀ : Hp} {v : V} {r : Rs} {vs : List V} {rs : List Rs} (h : RsA K H₀ F H σ ρ (v :: vs) (r :: rs)) : RsR K H₀ F H σ ρ v r ∧ RsA K H₀ F H σ ρ vs rs :=
  ⟨h.at_ 0 v r rfl rfl, ⟨by have := h.len; simpa using this, fun i w s h1 h2 => h.at_ (i + 1) w s (by simpa using h1) (by simpa using h2),
    fun i j a d e h1 h2 h3 h4 => by have := h.dj (i + 1) (j + 1) a d e (by simpa using h1) (by simpa using h2) (by simpa using h3) (by simpa using h4); omega⟩⟩
theorem lookA_ok {H₀ : Hp} (s : Sta K F H σ ρ) : ∀ {vs : List V} {rs : List Rs} {ds : List D} {ρ' : List Sl}, RsA K H₀ F H σ ρ vs rs → lookA rs ρ = .ok ds ρ' → ρ' = ρ ∧ VwA K F H vs ds
  | [], [], ds, ρ', h, e => by cases e; exact ⟨rfl, trivial⟩
  | [], _ :: _, ds, ρ', h, e => by have := h.len; simp at this
  | _ :: _, [], ds, ρ', h, e => by have := h.len; simp at this
  | v :: vs, r :: rs, ds, ρ', h, e => by
    obtain ⟨d, ρ1, e1, e⟩ := bd_ok e
    obtain ⟨ds', ρ2, e2, e⟩ := bd_ok e
    obtain ⟨e3, e4⟩ := pr_ok e
    subst e3; subst e4
    obtain ⟨h1, h2⟩ := h.tail
    obtain ⟨z, w⟩ := look_ok s h1 e1
    rw [z] at e2
    obtain ⟨z', w'⟩ := lookA_ok s h2 e2
    exact ⟨z', w, w'⟩
theorem RsA.ext {H₀ : Hp} {vs : List V} {rs : List Rs} (h : RsA K H₀ F H σ ρ vs rs) (x : Ext K F H σ ρ F' H' σ ρ') : RsA K H₀ F' H' σ ρ' vs rs := ⟨h.len, fun i v r h1 h2 => (h.at_ i v r h1 h2).ext x, h.dj⟩
end
end DL

namespace DL
open PySem PySem.Spec PyProof.Rows L2
section
variable {K : PySem.W.Frag} {F H F' H' : Hp} {σ σ' : SS} {ρ ρ' : List Sl}

/-! ### freezing several -/
theorem hd_set_fz {i j : Nat} {b : Addr} {d : D} (h : HdAt σ (ρ.set i (.fz d)) j b) : HdAt σ ρ j b := by
  by_cases hj : i = j
  · subst hj
    rcases h with ⟨e, d', q⟩ | ⟨e, d', q⟩ <;>
    · by_cases hi : i < ρ.length
      · rw [List.getElem?_set_self hi] at q; cases q
      · rw [List.getElem?_eq_none (by simpa using hi)] at q; cases q
  · rcases h with ⟨e, d', q⟩ | ⟨e, d', q⟩
    · rw [List.getElem?_set_ne hj] at q; exact .inl ⟨e, d', q⟩
    · rw [List.getElem?_set_ne hj] at q; exact .inr ⟨e, d', q⟩
theorem Ext.freeze' {F₀ H₀ : Hp} {σ₀ : SS} {ρ₀ : List Sl} {i : Nat} {a : Addr} {d : D} {s : Sl} (x : Ext K F₀ H₀ σ₀ ρ₀ F H σ ρ) (hσ : σ[i]? = some (some (.ref a))) (hρ : ρ[i]? = some s) (hs : s = .ow d ∨ s = .lk d) :
    ∃ F', Ext K F₀ H₀ σ₀ ρ₀ F' H σ (ρ.set i (.fz d)) ∧ Rp K F' (.ref a) d ∧ Same F F' ∧ (∀ b, (∀ i, ¬ HdAt σ ρ i b) → F b = none → F' b = none) := by
  have hd : HdAt σ ρ i a := by
    rcases hs with e | e
    · exact .inl ⟨hσ, d, by rw [hρ, e]⟩
    · exact .inr ⟨hσ, d, by rw [hρ, e]⟩
  obtain ⟨F', x', rp⟩ := (Ext.refl x.st).freeze hσ hρ hs
  refine ⟨F', x.trans x', rp, x'.fr, fun b n q => ?_⟩
  cases e : H b with
  | some o => exact x'.nf b (by rw [e]; exact fun z => nomatch z) n q
  | none =>
    cases r : F' b with
    | none => rfl
    | some o =>
      have := x'.st.le b o r
      rw [e] at this; cases this
theorem frz_ok' {F₀ H₀ : Hp} {σ₀ : SS} {ρ₀ : List Sl} {v : V} {r : Rs} {d : D} (x : Ext K F₀ H₀ σ₀ ρ₀ F H σ ρ) (h : RsR K H₀ F H σ ρ v r) (e : frz r ρ = .ok d ρ') :
    ∃ F', Ext K F₀ H₀ σ₀ ρ₀ F' H σ ρ' ∧ Rp K F' v d ∧ Same F F' ∧ (∀ b, (∀ i, ¬ HdAt σ ρ i b) → (∀ d', r = .ow d' → v ≠ .ref b) → F b = none → F' b = none) ∧ ∀ i b, HdAt σ ρ' i b → HdAt σ ρ i b := by
  cases r with
  | fz d' => cases e; exact ⟨F, x, h, Same.refl _, fun _ _ _ e => e, fun _ _ e => e⟩
  | ow d' =>
    obtain ⟨a, e1, h0, hf, ho, hn⟩ := h
    cases e
    subst e1
    obtain ⟨F', x', rp, sm, nb⟩ := x.freezeNew h0 hf ho hn
    refine ⟨F', x', rp, sm, fun b _ q z => ?_, fun _ _ e => e⟩
    rw [nb b fun z => q _ rfl (by rw [z])]; exact z
  | nm i =>
    have h : σ[i]? = some (some v) := h
    unfold frz at e
    simp only at e
    cases q : ρ[i]? with
    | none => rw [q] at e; cases e
    | some sl =>
      rw [q] at e
      have z := x.st.sl i sl q
      cases sl with
      | em => cases e
      | fz d' =>
        cases e
        obtain ⟨w, e1, e2⟩ := z
        rw [h] at e1; cases e1
        exact ⟨F, x, e2, Same.refl _, fun _ _ _ e => e, fun _ _ e => e⟩
      | ow d' =>
        cases e
        obtain ⟨a, e1, e2, e3⟩ := z
        rw [h] at e1; cases e1
        obtain ⟨F', x', rp, sm, nb⟩ := x.freeze' h q (.inl rfl)
        exact ⟨F', x', rp, sm, fun b n _ z => nb b n z, fun _ _ => hd_set_fz⟩
      | lk d' =>
        cases e
        obtain ⟨a, e1, e2, e3⟩ := z
        rw [h] at e1; cases e1
        obtain ⟨F', x', rp, sm, nb⟩ := x.freeze' h q (.inr rfl)
        exact ⟨F', x', rp, sm, fun b n _ z => nb b n z, fun _ _ => hd_set_fz⟩
/-- the others stay what they were when one is frozen -/
theorem RsA.frozen {H₀ : Hp} {v : V} {r : Rs} {vs : List V} {rs : List Rs} (h : RsA K H₀ F H σ ρ (v :: vs) (r :: rs)) (sm : Same F F')
    (nb : ∀ b, (∀ i, ¬ HdAt σ ρ i b) → (∀ d', r = .ow d' → v ≠ .ref b) → F b = none → F' b = none) (hb : ∀ i b, HdAt σ ρ' i b → HdAt σ ρ i b) : RsA K H₀ F' H σ ρ' vs rs := by
  refine ⟨h.tail.2.len, fun i w s h1 h2 => ?_, h.tail.2.dj⟩
  have q := h.tail.2.at_ i w s h1 h2
  cases s with
  | fz d => exact q.mono sm
  | nm i => exact q
  | ow d =>
    obtain ⟨a, e, h0, hf, ho, hn⟩ := q
    refine ⟨a, e, h0, nb a hn (fun d' e1 e2 => ?_) hf, ho.mono sm rfl, fun i z => hn i (hb i a z)⟩
    have := h.dj 0 (i + 1) a d' d (by rw [e2]; rfl) (by rw [e1]; rfl) (by rw [← e]; simpa using h1) (by simpa using h2)
    omega
theorem frzA_ok {F₀ H₀ : Hp} {σ₀ : SS} {ρ₀ : List Sl} : ∀ {rs : List Rs} {vs : List V} {ds : List D} {F : Hp} {ρ ρ' : List Sl}, Ext K F₀ H₀ σ₀ ρ₀ F H σ ρ → RsA K H₀ F H σ ρ vs rs → frzA rs ρ = .ok ds ρ' →
    ∃ F', Ext K F₀ H₀ σ₀ ρ₀ F' H σ ρ' ∧ RpA K F' vs ds ∧ Same F F'
  | [], [], ds, F, ρ, ρ', x, h, e => by cases e; exact ⟨F, x, .nil, Same.refl _⟩
  | [], _ :: _, _, _, _, _, _, h, _ => by have := h.len; simp at this
  | _ :: _, [], _, _, _, _, _, h, _ => by have := h.len; simp at this
  | r :: rs, v :: vs, ds, F, ρ, ρ', x, h, e => by
    obtain ⟨d, ρ1, e1, e⟩ := bd_ok e
    obtain ⟨ds', ρ2, e2, e⟩ := bd_ok e
    obtain ⟨e3, e4⟩ := pr_ok e
    subst e3; subst e4
    obtain ⟨F1, x1, rp, sm, nb, hb⟩ := frz_ok' x h.tail.1 e1
    obtain ⟨F2, x2, rpa, sm2⟩ := frzA_ok x1 (h.frozen sm nb hb) e2
    exact ⟨F2, x2, .cons (rp.mono sm2) rpa, sm.trans sm2⟩

/-! ### displays of tuples and lists -/
def dTup (f : M (List Rs)) : M Rs := bd f fun rs => bd (frzA rs) fun ds => if ds.length ≤ 1000 then pr (.fz (.tuple ds)) else fun _ => .bad
def dLst (f : M (List Rs)) : M Rs := bd f fun rs => bd (frzA rs) fun ds => if ds.length ≤ 1000 then pr (.ow (.list ds)) else fun _ => .bad
theorem small_le {n : Nat} (h : n ≤ 1000) : n ≤ sizeLine := Nat.le_trans h (by decide)
theorem sem_tup {f : M (List Rs)} : ∀ σ H Q, tSem K (dTup f) σ H Q → tTup (tSemA K f) σ H Q := fun σ H Q ⟨F, ρ, r, ρ', s, e, k⟩ => by
  obtain ⟨rs, ρ1, e1, e⟩ := bd_ok e
  obtain ⟨ds, ρ2, e2, e⟩ := bd_ok e
  split at e
  case isFalse => cases e
  case isTrue hl =>
    obtain ⟨e3, e4⟩ := pr_ok e
    subst e3; subst e4
    refine ⟨F, ρ, rs, ρ1, s, e1, fun F1 H1 vs x1 q1 => ?_⟩
    obtain ⟨F2, x2, rpa, _⟩ := frzA_ok x1 q1 e2
    refine ⟨by rw [rpa.length]; exact small_le hl, fun p hp => NewR.tup (F := F2) (K := K) (fun F3 H3 v g hr => k F3 H3 v (x2.trans (x2.st.grow g)) (x2.st.res g hr fun a z => x2.back z)) x2.st.le rpa hp⟩
theorem sem_lst {f : M (List Rs)} : ∀ σ H Q, tSem K (dLst f) σ H Q → tLst (tSemA K f) σ H Q := fun σ H Q ⟨F, ρ, r, ρ', s, e, k⟩ => by
  obtain ⟨rs, ρ1, e1, e⟩ := bd_ok e
  obtain ⟨ds, ρ2, e2, e⟩ := bd_ok e
  split at e
  case isFalse => cases e
  case isTrue hl =>
    obtain ⟨e3, e4⟩ := pr_ok e
    subst e3; subst e4
    refine ⟨F, ρ, rs, ρ1, s, e1, fun F1 H1 vs x1 q1 => ?_⟩
    obtain ⟨F2, x2, rpa, _⟩ := frzA_ok x1 q1 e2
    refine ⟨by rw [rpa.length]; exact small_le hl, fun p hp => NewR.lst (F := F2) (K := K) (fun F3 H3 v g hr => k F3 H3 v (x2.trans (x2.st.grow g)) (x2.st.res g hr fun a z => x2.back z)) x2.st.le rpa hp⟩
section
variable {X : Cx} {es : List Expr} {f : M (List Rs)} {pos : Pos} {x1 : Nat}
theorem et (h : PA X es (tSemA X.K f)) : PE X (.Tuple es x1 pos) (tSem X.K (dTup f)) := peWeak (pe_tup h) sem_tup
theorem el (h : PA X es (tSemA X.K f)) : PE X (.List es pos) (tSem X.K (dLst f)) := peWeak (pe_lst h) sem_lst
end

/-! ### built-ins of several values -/
def OpN (K : PySem.W.Frag) (r : List V → Hp → VK → Prop) (g : List D → Option Rs) : Prop := ∀ F H xs ds res Q, Same F H → VwA K F H xs ds → g ds = some res → NewR K F H res Q → r xs H Q
def dB (g : List D → Option Rs) (f : M (List Rs)) : M Rs := bd f fun rs => bd (lookA rs) fun ds => opt (g ds)
theorem sem_B {r : List V → Hp → VK → Prop} {g : List D → Option Rs} {f : M (List Rs)} (h : OpN K r g) : ∀ σ H Q, tSem K (dB g f) σ H Q → tCB r (tSemA K f) σ H Q := fun σ H Q ⟨F, ρ, res, ρ', s, e, k⟩ => by
  obtain ⟨rs, ρ1, e1, e⟩ := bd_ok e
  obtain ⟨ds, ρ3, e3, e⟩ := bd_ok e
  obtain ⟨eg, e5⟩ := opt_ok e
  refine ⟨F, ρ, rs, ρ1, s, e1, fun F1 H1 vs x1 q1 => ?_⟩
  obtain ⟨e3', w⟩ := lookA_ok x1.st q1 e3
  subst e3'; subst e5
  refine h F1 H1 vs ds res Q x1.st.le w eg fun F3 H3 v g hr => ?_
  exact k F3 H3 v (x1.trans (x1.st.grow g)) (x1.st.res g hr fun a z => x1.back z)

/-! ### calls of defs -/
def argS (l : Bool) (r : Rs) : M Rs := fun ρ => match r with
  | .fz d => .ok (.fz d) ρ
  | .ow d => .ok (.ow d) ρ
  | .nm i => match ρ[i]? with
    | some (.fz d) => .ok (.fz d) ρ
    | some (.ow d) => if l then .ok (.nm i) ρ else .ok (.fz d) (ρ.set i (.fz d))
    | some (.lk d) => if l then .ok (.nm i) ρ else .ok (.fz d) (ρ.set i (.fz d))
    | _ => .bad
def argSA : List Bool → List Rs → M (List Rs)
  | l :: ls, r :: rs => bd (argS l r) fun r' => bd (argSA ls rs) fun rs' => pr (r' :: rs')
  | [], [] => pr []
  | _, _ => fun _ => .bad
def slotOf (ρ : List Sl) : Rs → Sl
  | .fz d => .fz d
  | .ow d => .ow d
  | .nm i => (ρ[i]?).getD .em
def isNm (i : Nat) : Rs → Bool
  | .nm j => i == j
  | _ => false
def nmOk : List Rs → Bool
  | .nm i :: rs => !(rs.any (isNm i)) && nmOk rs
  | _ :: rs => nmOk rs
  | [] => true
/-- the slots of what was lent, as the callee left them -/
def wb : List Rs → List Sl → List Sl → List Sl
  | .nm i :: rs, s :: ss, ρ => wb rs ss (ρ.set i s)
  | _ :: rs, _ :: ss, ρ => wb rs ss ρ
  | _, _, ρ => ρ
def heldR (ρ : List Sl) : Rs → Bool
  | .nm i => match ρ[i]? with
    | some (.ow _) => true
    | some (.lk _) => true
    | _ => false
  | _ => true
def dCall (ls : List Bool) (sem : M Rs) (f : M (List Rs)) : M Rs := bd f fun rs => bd (argSA ls rs) fun rs' => fun ρ =>
  if (nmOk rs' && rs'.all (heldR ρ)) = true then match sem (rs'.map (slotOf ρ)) with
    | .ok (.fz d) ρp => .ok (.fz d) (wb rs' ρp ρ)
    | .ok (.ow d) ρp => .ok (.ow d) (wb rs' ρp ρ)
    | _ => .bad
  else .bad
theorem argS_ok {F₀ H₀ : Hp} {σ₀ : SS} {ρ₀ : List Sl} {l : Bool} {v : V} {r r' : Rs} (x : Ext K F₀ H₀ σ₀ ρ₀ F H σ ρ) (h : RsR K H₀ F H σ ρ v r) (e : argS l r ρ = .ok r' ρ') :
    ∃ F', Ext K F₀ H₀ σ₀ ρ₀ F' H σ ρ' ∧ RsR K H₀ F' H σ ρ' v r' ∧ (∀ d, r' = .ow d → r = .ow d) ∧ Same F F' ∧ (∀ b, (∀ i, ¬ HdAt σ ρ i b) → F b = none → F' b = none) ∧ ∀ i b, HdAt σ ρ' i b → HdAt σ ρ i b := by
  cases r with
  | fz d => cases e; exact ⟨F, x, h, (fun _ e => nomatch e), Same.refl _, fun _ _ e => e, fun _ _ e => e⟩
  | ow d => cases e; exact ⟨F, x, h, fun _ e => e, Same.refl _, fun _ _ e => e, fun _ _ e => e⟩
  | nm i =>
    have h' : σ[i]? = some (some v) := h
    unfold argS at e
    simp only at e
    cases q : ρ[i]? with
    | none => rw [q] at e; cases e
    | some sl =>
      rw [q] at e
      have z := x.st.sl i sl q
      cases sl with
      | em => cases e
      | fz d' =>
        cases e
        obtain ⟨w, e1, e2⟩ := z
        rw [h'] at e1; cases e1
        exact ⟨F, x, e2, (fun _ e => nomatch e), Same.refl _, fun _ _ e => e, fun _ _ e => e⟩
      | ow d' =>
        obtain ⟨a, e1, e2, e3⟩ := z
        rw [h'] at e1; cases e1
        simp only at e
        split at e
        · cases e; exact ⟨F, x, h, (fun _ e => nomatch e), Same.refl _, fun _ _ e => e, fun _ _ e => e⟩
        · cases e
          obtain ⟨F', x', rp, sm, nb⟩ := x.freeze' h' q (.inl rfl)
          exact ⟨F', x', rp, (fun _ e => nomatch e), sm, fun b n z => nb b n z, fun _ _ => hd_set_fz⟩
      | lk d' =>
        obtain ⟨a, e1, e2, e3⟩ := z
        rw [h'] at e1; cases e1
        simp only at e
        split at e
        · cases e; exact ⟨F, x, h, (fun _ e => nomatch e), Same.refl _, fun _ _ e => e, fun _ _ e => e⟩
        · cases e
          obtain ⟨F', x', rp, sm, nb⟩ := x.freeze' h' q (.inr rfl)
          exact ⟨F', x', rp, (fun _ e => nomatch e), sm, fun b n z => nb b n z, fun _ _ => hd_set_fz⟩
theorem argSA_ok {F₀ H₀ : Hp} {σ₀ : SS} {ρ₀ : List Sl} : ∀ {ls : List Bool} {rs rs' : List Rs} {vs : List V} {F : Hp} {ρ ρ' : List Sl}, Ext K F₀ H₀ σ₀ ρ₀ F H σ ρ → RsA K H₀ F H σ ρ vs rs → argSA ls rs ρ = .ok rs' ρ' →
    ∃ F', Ext K F₀ H₀ σ₀ ρ₀ F' H σ ρ' ∧ RsA K H₀ F' H σ ρ' vs rs' ∧ (∀ (j : Nat) (d : D), rs'[j]? = some (.ow d) → rs[j]? = some (.ow d)) ∧ Same F F' ∧ (∀ b, (∀ i, ¬ HdAt σ ρ i b) → F b = none → F' b = none) ∧ ∀ i b, HdAt σ ρ' i b → HdAt σ ρ i b
  | [], [], rs', [], F, ρ, ρ', x, h, e => by cases e; exact ⟨F, x, h, fun _ _ e => e, Same.refl _, fun _ _ e => e, fun _ _ e => e⟩
  | _, [], _, _ :: _, _, _, _, _, h, _ => by have := h.len; simp at this
  | _, _ :: _, _, [], _, _, _, _, h, _ => by have := h.len; simp at this
  | [], _ :: _, _, _ :: _, _, _, _, _, h, e => by cases e
  | _ :: _, [], _, _, _, _, _, _, h, e => by cases e
  | l :: ls, r :: rs, rs', v :: vs, F, ρ, ρ', x, h, e => by
    obtain ⟨r1, ρ1, e1, e⟩ := bd_ok e
    obtain ⟨rs1, ρ2, e2, e⟩ := bd_ok e
    obtain ⟨e3, e4⟩ := pr_ok e
    subst e3; subst e4
    obtain ⟨F1, x1, q1, ow1, sm, nb, hb⟩ := argS_ok x h.tail.1 e1
    obtain ⟨F2, x2, q2, ow2, sm2, nb2, hb2⟩ := argSA_ok x1 (h.frozen sm (fun b n _ z => nb b n z) hb) e2
    refine ⟨F2, x2, ⟨by rw [List.length_cons, List.length_cons, q2.len], fun i w s h1 h2 => ?_, fun i j a d e h1 h2 h3 h4 => ?_⟩, fun j d z => ?_, sm.trans sm2, fun b n z => nb2 b (fun i y => n i (hb i b y)) (nb b n z), fun i b y => hb i b (hb2 i b y)⟩
    · cases i with
      | zero =>
        simp at h1 h2
        subst h1; subst h2
        cases r1 with
        | fz d => exact Rp.mono sm2 q1
        | nm i => exact q1
        | ow d =>
          obtain ⟨a, e, h0, hf, ho, hn⟩ := q1
          exact ⟨a, e, h0, nb2 a hn hf, ho.mono sm2 rfl, fun i z => hn i (hb2 i a z)⟩
      | succ i => exact q2.at_ i w s (by simpa using h1) (by simpa using h2)
    · have o1 : (r :: rs)[i]? = some (.ow d) := by
        cases i with
        | zero => simp at h2 ⊢; exact ow1 d h2
        | succ i => simp at h2 ⊢; exact ow2 i d h2
      have o2 : (r :: rs)[j]? = some (.ow e) := by
        cases j with
        | zero => simp at h4 ⊢; exact ow1 e h4
        | succ j => simp at h4 ⊢; exact ow2 j e h4
      exact h.dj i j a d e h1 o1 h3 o2
    · cases j with
      | zero => simp at z ⊢; exact ow1 d z
      | succ j => simp at z ⊢; exact ow2 j d z
theorem argSA_len : ∀ {ls : List Bool} {rs rs' : List Rs} {ρ ρ' : List Sl}, argSA ls rs ρ = .ok rs' ρ' → rs.length = ls.length
  | [], [], _, _, _, _ => rfl
  | [], _ :: _, _, _, _, e => by cases e
  | _ :: _, [], _, _, _, e => by cases e
  | _ :: _, _ :: _, _, _, _, e => by
    obtain ⟨r1, ρ3, _, e2⟩ := bd_ok e
    obtain ⟨rs1, ρ4, e4, _⟩ := bd_ok e2
    rw [List.length_cons, List.length_cons, argSA_len e4]
theorem nm_not {i : Nat} : ∀ {rs : List Rs} {j : Nat}, rs.any (isNm i) = false → rs[j]? = some (.nm i) → False
  | [], _, _, h => by simp at h
  | r :: rs, 0, h, e => by
    simp at e; subst e
    simp [isNm] at h
  | r :: rs, j + 1, h, e => by
    rw [List.any_cons, Bool.or_eq_false_iff] at h
    exact nm_not h.2 (j := j) (by simpa using e)
theorem nm_tail {r : Rs} {rs : List Rs} (h : nmOk (r :: rs) = true) : nmOk rs = true ∧ ∀ i, r = .nm i → rs.any (isNm i) = false := by
  cases r with
  | nm i =>
    unfold nmOk at h
    rw [Bool.and_eq_true, Bool.not_eq_true'] at h
    exact ⟨h.2, fun j e => by cases e; exact h.1⟩
  | fz d => exact ⟨h, fun _ e => nomatch e⟩
  | ow d => exact ⟨h, fun _ e => nomatch e⟩
theorem nm_inj : ∀ {rs : List Rs} {j k i : Nat}, nmOk rs = true → rs[j]? = some (.nm i) → rs[k]? = some (.nm i) → j = k
  | [], _, _, _, _, h, _ => by simp at h
  | r :: rs, 0, 0, _, _, _, _ => rfl
  | r :: rs, 0, k + 1, i, h, e1, e2 => by
    simp at e1 e2
    exact (nm_not ((nm_tail h).2 i e1) e2).elim
  | r :: rs, j + 1, 0, i, h, e1, e2 => by
    simp at e1 e2
    exact (nm_not ((nm_tail h).2 i e2) e1).elim
  | r :: rs, j + 1, k + 1, i, h, e1, e2 => by
    rw [nm_inj (nm_tail h).1 (j := j) (k := k) (i := i) (by simpa using e1) (by simpa using e2)]
theorem wb_len : ∀ (rs : List Rs) (ss ρ : List Sl), (wb rs ss ρ).length = ρ.length
  | [], _, _ => rfl
  | .nm i :: rs, s :: ss, ρ => by unfold wb; rw [wb_len, List.length_set]
  | .fz _ :: rs, s :: ss, ρ => by unfold wb; rw [wb_len]
  | .ow _ :: rs, s :: ss, ρ => by unfold wb; rw [wb_len]
  | .nm _ :: _, [], _ => rfl
  | .fz _ :: _, [], _ => rfl
  | .ow _ :: _, [], _ => rfl
theorem wb_get : ∀ {rs : List Rs} {ss ρ : List Sl} {i : Nat}, nmOk rs = true → rs.length = ss.length → i < ρ.length →
    (∃ (j : Nat) (s : Sl), rs[j]? = some (.nm i) ∧ ss[j]? = some s ∧ (wb rs ss ρ)[i]? = some s) ∨ ((∀ j : Nat, rs[j]? ≠ some (Rs.nm i)) ∧ (wb rs ss ρ)[i]? = ρ[i]?)
  | [], _, _, _, _, _, _ => .inr ⟨fun j h => by simp at h, rfl⟩
  | _ :: _, [], _, _, _, h, _ => by simp at h
  | r :: rs, s :: ss, ρ, i, h, hl, hi => by
    have hl' : rs.length = ss.length := by simpa using hl
    obtain ⟨h1, h2⟩ := nm_tail h
    have other : ∀ ρ1 : List Sl, ρ1.length = ρ.length → wb (r :: rs) (s :: ss) ρ = wb rs ss ρ1 → r ≠ .nm i → ρ1[i]? = ρ[i]? →
        (∃ (j : Nat) (s' : Sl), (r :: rs)[j]? = some (.nm i) ∧ (s :: ss)[j]? = some s' ∧ (wb (r :: rs) (s :: ss) ρ)[i]? = some s') ∨ ((∀ j : Nat, (r :: rs)[j]? ≠ some (Rs.nm i)) ∧ (wb (r :: rs) (s :: ss) ρ)[i]? = ρ[i]?) := fun ρ1 l1 w1 n1 g1 => by
      rw [w1]
      rcases wb_get (ρ := ρ1) (i := i) h1 hl' (by omega) with ⟨j, s', q1, q2, q3⟩ | ⟨q1, q2⟩
      · exact .inl ⟨j + 1, s', by simpa using q1, by simpa using q2, q3⟩
      · refine .inr ⟨fun j => ?_, q2.trans g1⟩
        cases j with
        | zero => simp; exact n1
        | succ j => simpa using q1 j
    cases r with
    | fz d => exact other ρ rfl rfl (fun z => nomatch z) rfl
    | ow d => exact other ρ rfl rfl (fun z => nomatch z) rfl
    | nm k =>
      by_cases hk : k = i
      · subst hk
        refine .inl ⟨0, s, rfl, rfl, ?_⟩
        show (wb rs ss (ρ.set k s))[k]? = some s
        rcases wb_get (ss := ss) (ρ := ρ.set k s) (i := k) h1 hl' (by simpa using hi) with ⟨j, s', q1, q2, q3⟩ | ⟨q1, q2⟩
        · exact (nm_not (h2 k rfl) q1).elim
        · rw [q2, List.getElem?_set_self hi]
      · exact other (ρ.set k s) (by simp) rfl (fun z => hk (by cases z; rfl)) (List.getElem?_set_ne hk)

theorem vs_at {vs : List V} {j : Nat} {a : V} : (vs.map some)[j]? = some (some a) ↔ vs[j]? = some a := by
  rw [List.getElem?_map]
  cases vs[j]? <;> simp
theorem slots_at {rs : List Rs} {j : Nat} {s : Sl} (h : (rs.map (slotOf ρ))[j]? = some s) : ∃ r, rs[j]? = some r ∧ slotOf ρ r = s := by
  rw [List.getElem?_map] at h
  cases e : rs[j]? with
  | none => rw [e] at h; cases h
  | some r => rw [e] at h; exact ⟨r, rfl, by simpa using h⟩
/-- what is held through an argument: a new thing, or what a slot of ours holds -/
theorem args_hd {H₀ : Hp} {vs : List V} {rs : List Rs} (h : RsA K H₀ F H σ ρ vs rs) {j : Nat} {b : Addr} (q : HdAt (vs.map some) (rs.map (slotOf ρ)) j b) :
    (∃ d, rs[j]? = some (.ow d) ∧ vs[j]? = some (.ref b)) ∨ ∃ i, rs[j]? = some (.nm i) ∧ vs[j]? = some (.ref b) ∧ HdAt σ ρ i b := by
  rcases q with ⟨e, d, q⟩ | ⟨e, d, q⟩
  · obtain ⟨r, e1, e2⟩ := slots_at q
    have ev := vs_at.mp e
    cases r with
    | fz d' => cases e2
    | ow d' => exact .inl ⟨d', e1, ev⟩
    | nm i =>
      have hi : σ[i]? = some (some (.ref b)) := h.at_ j _ _ ev e1
      refine .inr ⟨i, e1, ev, .inl ⟨hi, d, ?_⟩⟩
      have e2 : (ρ[i]?).getD .em = .ow d := e2
      cases z : ρ[i]? with
      | none => rw [z] at e2; cases e2
      | some s => rw [z] at e2; rw [show s = .ow d from e2]
  · obtain ⟨r, e1, e2⟩ := slots_at q
    have ev := vs_at.mp e
    cases r with
    | fz d' => cases e2
    | ow d' => cases e2
    | nm i =>
      have hi : σ[i]? = some (some (.ref b)) := h.at_ j _ _ ev e1
      refine .inr ⟨i, e1, ev, .inr ⟨hi, d, ?_⟩⟩
      have e2 : (ρ[i]?).getD .em = .lk d := e2
      cases z : ρ[i]? with
      | none => rw [z] at e2; cases e2
      | some s => rw [z] at e2; rw [show s = .lk d from e2]
theorem args_ow {H₀ : Hp} {vs : List V} {rs : List Rs} (h : RsA K H₀ F H σ ρ vs rs) {j : Nat} {b : Addr} (q : OwAt (vs.map some) (rs.map (slotOf ρ)) j b) :
    (∃ d, rs[j]? = some (.ow d) ∧ vs[j]? = some (.ref b)) ∨ ∃ i, rs[j]? = some (.nm i) ∧ vs[j]? = some (.ref b) ∧ OwAt σ ρ i b := by
  obtain ⟨e, d, q⟩ := q
  obtain ⟨r, e1, e2⟩ := slots_at q
  have ev := vs_at.mp e
  cases r with
  | fz d' => cases e2
  | ow d' => exact .inl ⟨d', e1, ev⟩
  | nm i =>
    have hi : σ[i]? = some (some (.ref b)) := h.at_ j _ _ ev e1
    refine .inr ⟨i, e1, ev, hi, d, ?_⟩
    have e2 : (ρ[i]?).getD .em = .ow d := e2
    cases z : ρ[i]? with
    | none => rw [z] at e2; cases e2
    | some s => rw [z] at e2; rw [show s = .ow d from e2]
theorem args_sta {H₀ : Hp} {vs : List V} {rs : List Rs} (s : Sta K F H σ ρ) (h : RsA K H₀ F H σ ρ vs rs) (n : nmOk rs = true) : Sta K F H (vs.map some) (rs.map (slotOf ρ)) := by
  refine ⟨s.le, by rw [List.length_map, List.length_map, h.len], fun j sl q => ?_, fun j k b h1 h2 => ?_⟩
  · obtain ⟨r, e1, e2⟩ := slots_at q
    have hj : j < vs.length := by
      rw [h.len]
      exact (List.getElem?_eq_some_iff.mp e1).1
    have ev : vs[j]? = some vs[j] := List.getElem?_eq_getElem hj
    have z := h.at_ j _ r ev e1
    cases r with
    | fz d => subst e2; exact ⟨_, vs_at.mpr ev, z⟩
    | ow d =>
      subst e2
      obtain ⟨a, ea, _, hf, ho, _⟩ := z
      exact ⟨a, vs_at.mpr (by rw [ev, ea]), hf, ho⟩
    | nm i =>
      have hi : σ[i]? = some (some vs[j]) := z
      have e2 : (ρ[i]?).getD .em = sl := e2
      cases y : ρ[i]? with
      | none => rw [y] at e2; subst e2; trivial
      | some s' =>
        rw [y] at e2
        have e2 : s' = sl := e2
        subst e2
        have w := s.sl i s' y
        rw [hi] at w
        rw [show (vs.map some)[j]? = some (some vs[j]) from vs_at.mpr ev]
        exact w
  · rcases args_hd h h1 with ⟨d, a1, a2⟩ | ⟨i, a1, a2, a3⟩
    · rcases args_hd h h2 with ⟨d', b1, b2⟩ | ⟨i', b1, b2, b3⟩
      · exact h.dj j k b d d' a2 a1 b2 b1
      · obtain ⟨c, ec, _, _, _, hn⟩ := h.at_ j _ _ a2 a1
        cases ec
        exact (hn i' b3).elim
    · rcases args_hd h h2 with ⟨d', b1, b2⟩ | ⟨i', b1, b2, b3⟩
      · obtain ⟨c, ec, _, _, _, hn⟩ := h.at_ k _ _ b2 b1
        cases ec
        exact (hn i a3).elim
      · have e := s.dj i i' b a3 b3
        subst e
        exact nm_inj n a1 b1
theorem held_of {rs : List Rs} (h : rs.all (heldR ρ) = true) {j i : Nat} (e : rs[j]? = some (.nm i)) : ∃ d, ρ[i]? = some (.ow d) ∨ ρ[i]? = some (.lk d) := by
  have hm : Rs.nm i ∈ rs := List.mem_of_getElem? e
  have q := List.all_eq_true.mp h _ hm
  unfold heldR at q
  simp only at q
  cases z : ρ[i]? with
  | none => rw [z] at q; cases q
  | some s =>
    rw [z] at q
    cases s with
    | ow d => exact ⟨d, .inl rfl⟩
    | lk d => exact ⟨d, .inr rfl⟩
    | em => cases q
    | fz d => cases q
theorem call_ext {F₀ H₀ : Hp} {σ₀ : SS} {ρ₀ ρp : List Sl} {vs : List V} {rs : List Rs} (x : Ext K F₀ H₀ σ₀ ρ₀ F H σ ρ) (h : RsA K H₀ F H σ ρ vs rs) (n : nmOk rs = true) (hh : rs.all (heldR ρ) = true)
    (y : Ext K F H (vs.map some) (rs.map (slotOf ρ)) F' H' (vs.map some) ρp) : Ext K F₀ H₀ σ₀ ρ₀ F' H' σ (wb rs ρp ρ) ∧
      (∀ i b, HdAt σ (wb rs ρp ρ) i b → (∃ j, rs[j]? = some (.nm i) ∧ HdAt (vs.map some) ρp j b) ∨ ((∀ j : Nat, rs[j]? ≠ some (Rs.nm i)) ∧ HdAt σ ρ i b)) := by
  have hlp : rs.length = ρp.length := by
    have := y.st.len
    rw [List.length_map] at this
    rw [← h.len]; exact this
  -- where a slot of ours comes from
  have slot : ∀ (i : Nat) (s : Sl), (wb rs ρp ρ)[i]? = some s → (∃ j : Nat, rs[j]? = some (Rs.nm i) ∧ ρp[j]? = some s ∧ ∃ v, vs[j]? = some v ∧ σ[i]? = some (some v)) ∨ ((∀ j : Nat, rs[j]? ≠ some (Rs.nm i)) ∧ ρ[i]? = some s) := fun i s e => by
    have hi : i < ρ.length := by
      have := (List.getElem?_eq_some_iff.mp e).1
      rw [wb_len] at this; exact this
    rcases wb_get (ρ := ρ) n hlp hi with ⟨j, s', q1, q2, q3⟩ | ⟨q1, q2⟩
    · rw [e] at q3; cases q3
      have hj : j < vs.length := by
        rw [h.len]
        exact (List.getElem?_eq_some_iff.mp q1).1
      exact .inl ⟨j, q1, q2, vs[j], List.getElem?_eq_getElem hj, h.at_ j _ _ (List.getElem?_eq_getElem hj) q1⟩
    · exact .inr ⟨q1, q2 ▸ e⟩
  have hdw : ∀ i b, HdAt σ (wb rs ρp ρ) i b → (∃ j, rs[j]? = some (.nm i) ∧ HdAt (vs.map some) ρp j b) ∨ ((∀ j : Nat, rs[j]? ≠ some (Rs.nm i)) ∧ HdAt σ ρ i b) := fun i b q => by
    rcases q with ⟨e, d, q⟩ | ⟨e, d, q⟩
    · rcases slot i _ q with ⟨j, q1, q2, v, q3, q4⟩ | ⟨q1, q2⟩
      · rw [e] at q4; cases q4
        exact .inl ⟨j, q1, .inl ⟨vs_at.mpr q3, d, q2⟩⟩
      · exact .inr ⟨q1, .inl ⟨e, d, q2⟩⟩
    · rcases slot i _ q with ⟨j, q1, q2, v, q3, q4⟩ | ⟨q1, q2⟩
      · rw [e] at q4; cases q4
        exact .inl ⟨j, q1, .inr ⟨vs_at.mpr q3, d, q2⟩⟩
      · exact .inr ⟨q1, .inr ⟨e, d, q2⟩⟩
  -- a slot of ours that was not lent: the callee doesn't touch what it holds
  have apart : ∀ i b, (∀ j : Nat, rs[j]? ≠ some (Rs.nm i)) → HdAt σ ρ i b → ∀ j, ¬ HdAt (vs.map some) (rs.map (slotOf ρ)) j b := fun i b hn q j z => by
    rcases args_hd h z with ⟨d, a1, a2⟩ | ⟨i', a1, a2, a3⟩
    · obtain ⟨c, ec, _, _, _, hn'⟩ := h.at_ j _ _ a2 a1
      cases ec
      exact hn' i q
    · have e := x.st.dj i i' b q a3
      subst e
      exact hn j a1
  -- what a lent slot holds behind the call it held ahead of it
  have lent : ∀ i j b, rs[j]? = some (.nm i) → HdAt (vs.map some) ρp j b → HdAt σ ρ i b := fun i j b q z => by
    have e : (vs.map some)[j]? = some (some (.ref b)) := by rcases z with z | z <;> exact z.1
    have es : σ[i]? = some (some (.ref b)) := h.at_ j _ _ (vs_at.mp e) q
    obtain ⟨d, r | r⟩ := held_of hh q
    · exact .inl ⟨es, d, r⟩
    · exact .inr ⟨es, d, r⟩
  have old : ∀ i b, HdAt σ (wb rs ρp ρ) i b → HdAt σ ρ i b := fun i b q => by
    rcases hdw i b q with ⟨j, a1, a2⟩ | ⟨_, a⟩
    · exact lent i j b a1 a2
    · exact a
  have noOw : ∀ b, H₀ b ≠ none → (∀ i, ¬ OwAt σ₀ ρ₀ i b) → ∀ j, ¬ OwAt (vs.map some) (rs.map (slotOf ρ)) j b := fun b e nb j z => by
    rcases args_ow h z with ⟨d, a1, a2⟩ | ⟨i, a1, a2, a3⟩
    · obtain ⟨c, ec, h0, _⟩ := h.at_ j _ _ a2 a1
      cases ec
      exact e h0
    · rcases x.ow i b a3 with w | w
      · exact nb i w
      · exact e w
  have noHd : ∀ b, H₀ b ≠ none → (∀ i, ¬ HdAt σ₀ ρ₀ i b) → ∀ j, ¬ HdAt (vs.map some) (rs.map (slotOf ρ)) j b := fun b e nb j z => by
    rcases args_hd h z with ⟨d, a1, a2⟩ | ⟨i, a1, a2, a3⟩
    · obtain ⟨c, ec, h0, _⟩ := h.at_ j _ _ a2 a1
      cases ec
      exact e h0
    · rcases x.hd a3 with w | w
      · exact nb i w
      · exact e w
  refine ⟨⟨⟨y.st.le, by rw [wb_len]; exact x.st.len, fun i s q => ?_, fun i k b h1 h2 => x.st.dj i k b (old i b h1) (old k b h2)⟩, x.fr.trans y.fr,
    fun b o e nb => y.kp b o (x.kp b o e nb) (noOw b (by rw [e]; exact fun z => nomatch z) nb), fun b e nb q => y.nf b (x.gr b e) (noHd b e nb) (x.nf b e nb q), fun b e => y.gr b (x.gr b e), fun i b q => ?_, fun i b q => ?_⟩, hdw⟩
  · rcases slot i s q with ⟨j, q1, q2, v, q3, q4⟩ | ⟨q1, q2⟩
    · have z := y.st.sl j s q2
      rw [show (vs.map some)[j]? = some (some v) from vs_at.mpr q3] at z
      rw [q4]; exact z
    · have z := x.st.sl i s q2
      cases s with
      | em => trivial
      | fz d => obtain ⟨v, e, r⟩ := z; exact ⟨v, e, r.mono y.fr⟩
      | ow d =>
        obtain ⟨a, e, nf, o⟩ := z
        obtain ⟨ob, eo⟩ := o.some
        have ap := apart i a q1 (.inl ⟨e, d, q2⟩)
        exact ⟨a, e, y.nf a o.ne ap nf, o.mono y.fr ((y.kp a ob eo fun j w => ap j (.inl w)).trans eo.symm)⟩
      | lk d =>
        obtain ⟨a, e, nf, o⟩ := z
        obtain ⟨ob, eo⟩ := o.some
        have ap := apart i a q1 (.inr ⟨e, d, q2⟩)
        exact ⟨a, e, y.nf a o.ne ap nf, o.mono y.fr ((y.kp a ob eo fun j w => ap j (.inl w)).trans eo.symm)⟩
  · obtain ⟨e, d, q⟩ := q
    rcases slot i _ q with ⟨j, q1, q2, v, q3, q4⟩ | ⟨q1, q2⟩
    · rw [e] at q4; cases q4
      rcases y.ow j b ⟨vs_at.mpr q3, d, q2⟩ with w | w
      · rcases args_ow h w with ⟨d', a1, a2⟩ | ⟨i', a1, a2, a3⟩
        · rw [q1] at a1; cases a1
        · rw [q1] at a1; cases a1; exact x.ow i b a3
      · exact .inr (x.back w)
    · exact x.ow i b ⟨e, d, q2⟩
  · obtain ⟨e, d, q⟩ := q
    rcases slot i _ q with ⟨j, q1, q2, v, q3, q4⟩ | ⟨q1, q2⟩
    · rw [e] at q4; cases q4
      rcases y.lk j b ⟨vs_at.mpr q3, d, q2⟩ with w | w
      · rcases args_hd h w with ⟨d', a1, a2⟩ | ⟨i', a1, a2, a3⟩
        · rw [q1] at a1; cases a1
        · rw [q1] at a1; cases a1; exact x.hd a3
      · exact .inr (x.back w)
    · exact x.hd (.inr ⟨e, d, q2⟩)

/-- a def's promise, by its function of slots -/
def spD (K : PySem.W.Frag) (n : Nat) (sem : M Rs) : Sp := fun vs H Q _ => vs.length = n ∧ tSem K sem (vs.map some) H Q
theorem sem_call {ls : List Bool} {sem : M Rs} {f : M (List Rs)} {n : Nat} {E : XK} (hn : ls.length = n) : ∀ σ H Q, tSem K (dCall ls sem f) σ H Q → tCall (spD K n sem) [] E (tSemA K f) σ H Q := fun σ H Q ⟨F, ρ, r, ρ', s, e, k⟩ => by
  obtain ⟨rs, ρ1, e1, e⟩ := bd_ok e
  obtain ⟨rs', ρ2, e2, e⟩ := bd_ok e
  split at e
  case isFalse => cases e
  case isTrue hc =>
    rw [Bool.and_eq_true] at hc
    refine ⟨F, ρ, rs, ρ1, s, e1, fun F1 H1 vs x1 q1 => ?_⟩
    obtain ⟨F2, x2, q2, _⟩ := argSA_ok x1 q1 e2
    have hlen : (vs ++ []).length = n := by
      rw [List.append_nil, q1.len, ← hn]
      exact argSA_len e2
    refine ⟨hlen, ?_⟩
    rw [List.append_nil]
    cases es : sem (rs'.map (slotOf ρ2)) with
    | bad => rw [es] at e; cases e
    | ok r0 ρp =>
      rw [es] at e
      refine ⟨F2, _, r0, ρp, args_sta x2.st q2 hc.1, es, fun F3 H3 v y qr => ?_⟩
      obtain ⟨x3, hd3⟩ := call_ext x2 q2 hc.1 hc.2 y
      cases r0 with
      | nm i => cases e
      | fz d => cases e; exact k F3 H3 v x3 qr
      | ow d =>
        cases e
        obtain ⟨a, ea, h0, hf, ho, hn⟩ := qr
        refine k F3 H3 v x3 ⟨a, ea, x2.back h0, hf, ho, fun i z => ?_⟩
        rcases hd3 i a z with ⟨j, _, w⟩ | ⟨_, w⟩
        · exact hn j w
        · obtain ⟨_, d', o⟩ := x2.st.held w
          exact o.ne h0
end
end DL

namespace DL
open PySem PySem.Spec PyProof.Rows L2
section
variable {K : PySem.W.Frag} {F H F' H' : Hp} {σ σ' : SS} {ρ ρ' : List Sl}

/-! ### statements -/
/-- the slots of P hold what they held -/
def Prot (P : Nat → Prop) (σ σ' : SS) : Prop := σ'.length = σ.length ∧ ∀ i, P i → σ'[i]? = σ[i]?
theorem Prot.refl {P : Nat → Prop} : Prot P σ σ := ⟨rfl, fun _ _ => rfl⟩
theorem Prot.trans {P : Nat → Prop} {σ2 : SS} (a : Prot P σ σ') (b : Prot P σ' σ2) : Prot P σ σ2 := ⟨b.1.trans a.1, fun i h => (b.2 i h).trans (a.2 i h)⟩
def SRok (K : PySem.W.Frag) (P : Nat → Prop) (F H : Hp) (σ : SS) (ρ : List Sl) (Dn : Ends) : SR → Prop
  | .nx ρ' => ∀ F' H' σ', Ext K F H σ ρ F' H' σ' ρ' → Prot P σ σ' → Dn.nx σ' H'
  | .bk ρ' => ∀ F' H' σ', Ext K F H σ ρ F' H' σ' ρ' → Prot P σ σ' → Dn.bk σ' H'
  | .ct ρ' => ∀ F' H' σ', Ext K F H σ ρ F' H' σ' ρ' → Prot P σ σ' → Dn.ct σ' H'
  | .rt r ρ' => ∀ F' H' σ' v, Ext K F H σ ρ F' H' σ' ρ' → Prot P σ σ' → RsR K H F' H' σ' ρ' v r → Dn.rt v H'
  | .bad => False
def tSemS (K : PySem.W.Frag) (P : Nat → Prop) (f : DS) : TS := fun Dn σ H => ∃ F ρ, Sta K F H σ ρ ∧ SRok K P F H σ ρ Dn (f ρ)
theorem SRok.after {P : Nat → Prop} {F₀ H₀ : Hp} {σ₀ : SS} {ρ₀ : List Sl} {Dn : Ends} {sr : SR} (x : Ext K F₀ H₀ σ₀ ρ₀ F H σ ρ) (p : Prot P σ₀ σ) (h : SRok K P F₀ H₀ σ₀ ρ₀ Dn sr) : SRok K P F H σ ρ Dn sr := by
  cases sr with
  | nx ρ' => exact fun F' H' σ' y q => h F' H' σ' (x.trans y) (p.trans q)
  | bk ρ' => exact fun F' H' σ' y q => h F' H' σ' (x.trans y) (p.trans q)
  | ct ρ' => exact fun F' H' σ' y q => h F' H' σ' (x.trans y) (p.trans q)
  | rt r ρ' => exact fun F' H' σ' v y q k => h F' H' σ' v (x.trans y) (p.trans q) (k.base fun a z => x.back z)
  | bad => exact h
def dSeq (f g : DS) : DS := fun ρ => match f ρ with
  | .nx ρ' => g ρ'
  | .rt r ρ' => .rt r ρ'
  | .bk ρ' => .bk ρ'
  | .ct ρ' => .ct ρ'
  | .bad => .bad
def dPass : DS := fun ρ => .nx ρ
def dBrk : DS := fun ρ => .bk ρ
def dCnt : DS := fun ρ => .ct ρ
def dBad : DS := fun _ => .bad
def dRet (f : M Rs) : DS := fun ρ => match f ρ with
  | .ok r ρ' => .rt r ρ'
  | .bad => .bad
def dDrop (f : M Rs) : DS := fun ρ => match f ρ with
  | .ok _ ρ' => .nx ρ'
  | .bad => .bad
def dIf (c : M Bool) (f g : DS) : DS := fun ρ => match c ρ with
  | .ok true ρ' => f ρ'
  | .ok false ρ' => g ρ'
  | .bad => .bad
section
variable {P : Nat → Prop}
theorem sem_seq {f g : DS} : ∀ D σ H, tSemS K P (dSeq f g) D σ H → tSeq (tSemS K P f) (tSemS K P g) D σ H := fun D σ H ⟨F, ρ, s, h⟩ => by
  refine ⟨F, ρ, s, ?_⟩
  unfold dSeq at h
  cases e : f ρ with
  | nx ρ' => rw [e] at h; exact fun F' H' σ' x p => ⟨F', ρ', x.st, h.after x p⟩
  | rt r ρ' => rw [e] at h; exact h
  | bk ρ' => rw [e] at h; exact h
  | ct ρ' => rw [e] at h; exact h
  | bad => rw [e] at h; exact h
theorem sem_pass : ∀ D σ H, tSemS K P dPass D σ H → tNext D σ H := fun D σ H ⟨F, ρ, s, h⟩ => h F H σ (Ext.refl s) Prot.refl
theorem sem_brk : ∀ D σ H, tSemS K P dBrk D σ H → tBreak D σ H := fun D σ H ⟨F, ρ, s, h⟩ => h F H σ (Ext.refl s) Prot.refl
theorem sem_cnt : ∀ D σ H, tSemS K P dCnt D σ H → tCont D σ H := fun D σ H ⟨F, ρ, s, h⟩ => h F H σ (Ext.refl s) Prot.refl
theorem sem_bad : ∀ D σ H, tSemS K P dBad D σ H → tNever D σ H := fun D σ H ⟨F, ρ, s, h⟩ => h
theorem sem_ret {f : M Rs} : ∀ D σ H, tSemS K P (dRet f) D σ H → tRet (tSem K f) D σ H := fun D σ H ⟨F, ρ, s, h⟩ => by
  unfold dRet at h
  cases e : f ρ with
  | bad => rw [e] at h; exact h.elim
  | ok r ρ' => rw [e] at h; exact ⟨F, ρ, r, ρ', s, e, fun F' H' v x q => h F' H' σ v x Prot.refl q⟩
theorem sem_retN : ∀ D σ H, tSemS K P (dRet (dC .none)) D σ H → tRetN D σ H := fun D σ H ⟨F, ρ, s, h⟩ => h F H σ .non (Ext.refl s) Prot.refl .non
theorem sem_drop {f : M Rs} : ∀ D σ H, tSemS K P (dDrop f) D σ H → tDrop (tSem K f) D σ H := fun D σ H ⟨F, ρ, s, h⟩ => by
  unfold dDrop at h
  cases e : f ρ with
  | bad => rw [e] at h; exact h.elim
  | ok r ρ' => rw [e] at h; exact ⟨F, ρ, r, ρ', s, e, fun F' H' v x q => h F' H' σ x Prot.refl⟩
theorem sem_if {c : M Bool} {f g : DS} : ∀ D σ H, tSemS K P (dIf c f g) D σ H → tIfS (tSemT K c) (tSemS K P f) (tSemS K P g) D σ H := fun D σ H ⟨F, ρ, s, h⟩ => by
  unfold dIf at h
  cases e : c ρ with
  | bad => rw [e] at h; exact h.elim
  | ok b ρ' =>
    rw [e] at h
    refine ⟨F, ρ, b, ρ', s, e, fun F' H' x => ?_⟩
    cases b with
    | true => exact iteT ⟨F', ρ', x.st, h.after x Prot.refl⟩
    | false => exact iteF ⟨F', ρ', x.st, h.after x Prot.refl⟩
section
variable {X : Cx} {st : Stmt} {rest : List Stmt} {f g : DS} {e : Expr} {fe : M Rs} {pos : Pos}
theorem sn : PSs X [] (tSemS X.K P dPass) := pssWeak pss_nil sem_pass
theorem sc (h1 : PS X st (tSemS X.K P f)) (h2 : PSs X rest (tSemS X.K P g)) : PSs X (st :: rest) (tSemS X.K P (dSeq f g)) := pssWeak (pss_cons h1 h2) sem_seq
theorem s1 (h1 : PS X st (tSemS X.K P f)) : PSs X [st] (tSemS X.K P f) := pss_one h1
theorem sret (h : PE X e (tSem X.K fe)) : PS X (.Return (some e) pos) (tSemS X.K P (dRet fe)) := psWeak (ps_ret h) sem_ret
theorem sretN : PS X (.Return none pos) (tSemS X.K P (dRet (dC .none))) := psWeak ps_retN sem_retN
theorem sex (h : PE X e (tSem X.K fe)) (hs : swapsWith e none pos.line X.env = pure false := by rfl) : PS X (.Expr e pos) (tSemS X.K P (dDrop fe)) := psWeak (ps_expr h hs) sem_drop
theorem sif {c : Expr} {a b : List Stmt} {tc : M Bool} (hc : PT X c (tSemT X.K tc)) (ha : PSs X a (tSemS X.K P f)) (hb : PSs X b (tSemS X.K P g)) : PS X (.If c a b pos) (tSemS X.K P (dIf tc f g)) := psWeak (ps_if hc ha hb) sem_if
theorem sbrk : PS X (.Break pos) (tSemS X.K P dBrk) := psWeak ps_break sem_brk
theorem scnt : PS X (.Continue pos) (tSemS X.K P dCnt) := psWeak ps_continue sem_cnt
theorem spass : PS X (.Pass pos) (tSemS X.K P dPass) := psWeak ps_pass sem_pass
theorem sbad : PS X st (tSemS X.K P dBad) := psWeak ps_never sem_bad
end

/-! ### stores -/
theorem Ext.setSlot {F₀ H₀ : Hp} {σ₀ : SS} {ρ₀ : List Sl} {i : Nat} {v : V} {s : Sl} (x : Ext K F₀ H₀ σ₀ ρ₀ F H σ ρ) (hi : i < ρ.length)
    (hs : (∃ d, s = .fz d ∧ Rp K F v d) ∨ (∃ d a, s = .ow d ∧ v = .ref a ∧ H₀ a = none ∧ F a = none ∧ Ob K F H a d ∧ ∀ i, ¬ HdAt σ ρ i a)) :
    Ext K F₀ H₀ σ₀ ρ₀ F H (σ.set i (some v)) (ρ.set i s) := by
  have hiσ : i < σ.length := by rw [x.st.len]; exact hi
  have owB : ∀ j b, OwAt (σ.set i (some v)) (ρ.set i s) j b → (j ≠ i ∧ OwAt σ ρ j b) ∨ (j = i ∧ v = .ref b ∧ H₀ b = none ∧ ∀ i, ¬ HdAt σ ρ i b) := fun j b ⟨e, d, q⟩ => by
    by_cases hj : i = j
    · subst hj
      rw [List.getElem?_set_self hiσ] at e
      rw [List.getElem?_set_self hi] at q
      cases e; cases q
      rcases hs with ⟨d', e1, _⟩ | ⟨d', a, e1, e2, e3, _, _, e4⟩
      · cases e1
      · cases e2; exact .inr ⟨rfl, rfl, e3, e4⟩
    · rw [List.getElem?_set_ne hj] at e q
      exact .inl ⟨fun z => hj z.symm, e, d, q⟩
  have lkB : ∀ j b, LkAt (σ.set i (some v)) (ρ.set i s) j b → j ≠ i ∧ LkAt σ ρ j b := fun j b ⟨e, d, q⟩ => by
    by_cases hj : i = j
    · subst hj
      rw [List.getElem?_set_self hi] at q
      cases q
      rcases hs with ⟨d', e1, _⟩ | ⟨d', a, e1, _⟩ <;> cases e1
    · rw [List.getElem?_set_ne hj] at e q
      exact ⟨fun z => hj z.symm, e, d, q⟩
  refine ⟨⟨x.st.le, by rw [List.length_set, List.length_set]; exact x.st.len, fun j sl q => ?_, fun j k b h1 h2 => ?_⟩, x.fr, x.kp, x.nf, x.gr, fun j b q => ?_, fun j b q => ?_⟩
  · by_cases hj : i = j
    · subst hj
      rw [List.getElem?_set_self hi] at q; cases q
      rw [List.getElem?_set_self hiσ]
      rcases hs with ⟨d, rfl, r⟩ | ⟨d, a, rfl, rfl, _, h1, h2, _⟩
      · exact ⟨v, rfl, r⟩
      · exact ⟨a, rfl, h1, h2⟩
    · rw [List.getElem?_set_ne hj] at q ⊢
      exact x.st.sl j sl q
  · have c1 : (j ≠ i ∧ HdAt σ ρ j b) ∨ (j = i ∧ ∀ i, ¬ HdAt σ ρ i b) := by
      rcases h1 with h1 | h1
      · rcases owB j b h1 with ⟨n, z⟩ | ⟨n, _, _, z⟩
        · exact .inl ⟨n, .inl z⟩
        · exact .inr ⟨n, z⟩
      · exact .inl ⟨(lkB j b h1).1, .inr (lkB j b h1).2⟩
    have c2 : (k ≠ i ∧ HdAt σ ρ k b) ∨ (k = i ∧ ∀ i, ¬ HdAt σ ρ i b) := by
      rcases h2 with h2 | h2
      · rcases owB k b h2 with ⟨n, z⟩ | ⟨n, _, _, z⟩
        · exact .inl ⟨n, .inl z⟩
        · exact .inr ⟨n, z⟩
      · exact .inl ⟨(lkB k b h2).1, .inr (lkB k b h2).2⟩
    rcases c1 with ⟨_, z1⟩ | ⟨n1, z1⟩
    · rcases c2 with ⟨_, z2⟩ | ⟨n2, z2⟩
      · exact x.st.dj j k b z1 z2
      · exact (z2 j z1).elim
    · rcases c2 with ⟨_, z2⟩ | ⟨n2, z2⟩
      · exact (z1 k z2).elim
      · rw [n1, n2]
  · rcases owB j b q with ⟨_, z⟩ | ⟨_, _, z, _⟩
    · exact x.ow j b z
    · exact .inr z
  · exact x.lk j b (lkB j b q).2
/-- what slot i becomes by r -/
def setR (i : Nat) (r : Rs) : List Sl → Option (List Sl) := fun ρ => if i < ρ.length then match r with
    | .fz d => some (ρ.set i (.fz d))
    | .ow d => some (ρ.set i (.ow d))
    | .nm j => match frz (.nm j) ρ with
      | .ok d ρ' => some (ρ'.set i (.fz d))
      | .bad => none
  else none
def dSet (i : Nat) (f : M Rs) : DS := fun ρ => match f ρ with
  | .bad => .bad
  | .ok r ρ1 => match setR i r ρ1 with
    | some ρ2 => .nx ρ2
    | none => .bad
theorem frz_len {r : Rs} {d : D} (h : frz r ρ = .ok d ρ') : ρ'.length = ρ.length := by
  cases r with
  | fz d' => cases h; rfl
  | ow d' => cases h; rfl
  | nm i =>
    unfold frz at h
    simp only at h
    cases q : ρ[i]? with
    | none => rw [q] at h; cases h
    | some s =>
      rw [q] at h
      cases s <;> cases h <;> simp
theorem setR_ok {F₀ H₀ : Hp} {σ₀ : SS} {ρ₀ : List Sl} {i : Nat} {v : V} {r : Rs} (x : Ext K F₀ H₀ σ₀ ρ₀ F H σ ρ) (h : RsR K H₀ F H σ ρ v r) (e : setR i r ρ = some ρ') :
    ∃ F', Ext K F₀ H₀ σ₀ ρ₀ F' H (σ.set i (some v)) ρ' := by
  unfold setR at e
  split at e
  case isFalse => cases e
  case isTrue hi =>
    cases r with
    | fz d => cases e; exact ⟨F, x.setSlot hi (.inl ⟨d, rfl, h⟩)⟩
    | ow d =>
      cases e
      obtain ⟨a, e1, e2, e3, e4, e5⟩ := h
      exact ⟨F, x.setSlot hi (.inr ⟨d, a, rfl, e1, e2, e3, e4, e5⟩)⟩
    | nm j =>
      cases q : frz (.nm j) ρ with
      | bad => simp only [q] at e; cases e
      | ok d ρ1 =>
        simp only [q] at e
        cases e
        obtain ⟨F', x', rp⟩ := frz_ok x h q
        exact ⟨F', x'.setSlot (by rw [frz_len q]; exact hi) (.inl ⟨d, rfl, rp⟩)⟩
theorem prot_set {i : Nat} {v : Option V} (h : ¬ P i) : Prot P σ (σ.set i v) := ⟨by rw [List.length_set], fun j hj => by
  rw [List.getElem?_set_ne]
  exact fun z => h (z ▸ hj)⟩
theorem sem_set {i : Nat} {f : M Rs} (hP : ¬ P i) : ∀ D σ H, tSemS K P (dSet i f) D σ H → tAsg (tSem K f) (gName i) D σ H := fun D σ H ⟨F, ρ, s, h⟩ => by
  unfold dSet at h
  cases e : f ρ with
  | bad => rw [e] at h; exact h.elim
  | ok r ρ1 =>
    rw [e] at h
    cases e2 : setR i r ρ1 with
    | none => simp only [e2] at h; exact h.elim
    | some ρ2 =>
      simp only [e2] at h
      refine ⟨F, ρ, r, ρ1, s, e, fun F' H' v x q => ?_⟩
      obtain ⟨F2, x2⟩ := setR_ok x q e2
      exact h F2 H' _ x2 (prot_set hP)

/-! ### targets that take values for good -/
abbrev DG := D → List Sl → Option (List Sl)
def tSemG (K : PySem.W.Frag) (P : Nat → Prop) (g : DG) : TG := fun v σ H Q => ∃ F ρ d ρ', Sta K F H σ ρ ∧ Rp K F v d ∧ g d ρ = some ρ' ∧ ∀ σ', Ext K F H σ ρ F H σ' ρ' → Prot P σ σ' → Q σ' H
abbrev DGs := List D → List Sl → Option (List Sl)
def tSemGs (K : PySem.W.Frag) (P : Nat → Prop) (g : DGs) : TGs := fun v σ H Q => ∃ F ρ d ρ', Sta K F H σ ρ ∧ RpA K F v d ∧ g d ρ = some ρ' ∧ ∀ σ', Ext K F H σ ρ F H σ' ρ' → Prot P σ σ' → Q σ' H
theorem pgWeak {X : Cx} {e : Expr} {t t' : TG} (h : PG X e t) (w : ∀ v σ H Q, t' v σ H Q → t v σ H Q) : PG X e t' :=
  ⟨fun pins s σ H v u Q I r q => h.run pins s σ H v u Q I r (w v σ H Q q)⟩
theorem pgsWeak {X : Cx} {e : List Expr} {t t' : TGs} (h : PGs X e t) (w : ∀ v σ H Q, t' v σ H Q → t v σ H Q) : PGs X e t' :=
  ⟨fun pins s σ H v u Q I r q => h.run pins s σ H v u Q I r (w v σ H Q q)⟩
def gN (i : Nat) : DG := fun d ρ => if i < ρ.length then some (ρ.set i (.fz d)) else none
def gsN : DGs := fun ds ρ => match ds with
  | [] => some ρ
  | _ => none
def gsC (g : DG) (gs : DGs) : DGs := fun ds ρ => match ds with
  | d :: ds => match g d ρ with
    | some ρ' => gs ds ρ'
    | none => none
  | [] => none
def gT (n : Nat) (gs : DGs) : DG := fun d ρ => match d with
  | .tuple ds => if ds.length = n then gs ds ρ else none
  | _ => none
theorem sem_gN {i : Nat} (hP : ¬ P i) : ∀ v σ H Q, tSemG K P (gN i) v σ H Q → gName i v σ H Q := fun v σ H Q ⟨F, ρ, d, ρ', s, r, e, k⟩ => by
  unfold gN at e
  split at e
  case isFalse => cases e
  case isTrue hi => cases e; exact k _ ((Ext.refl s).setSlot hi (.inl ⟨d, rfl, r⟩)) (prot_set hP)
theorem sem_gsN : ∀ v σ H Q, tSemGs K P gsN v σ H Q → gNil v σ H Q := fun v σ H Q ⟨F, ρ, d, ρ', s, r, e, k⟩ => by
  cases d with
  | cons _ _ => cases e
  | nil => cases e; cases r; exact ⟨rfl, k _ (Ext.refl s) Prot.refl⟩
theorem sem_gsC {g : DG} {gs : DGs} : ∀ v σ H Q, tSemGs K P (gsC g gs) v σ H Q → gCons (tSemG K P g) (tSemGs K P gs) v σ H Q := fun v σ H Q ⟨F, ρ, d, ρ', s, r, e, k⟩ => by
  cases d with
  | nil => cases e
  | cons d ds =>
    unfold gsC at e
    simp only at e
    cases e1 : g d ρ with
    | none => rw [e1] at e; cases e
    | some ρ1 =>
      rw [e1] at e
      cases r with
      | cons r rr =>
        exact ⟨_, _, rfl, F, ρ, d, ρ1, s, r, e1, fun σ1 x1 p1 => ⟨F, ρ1, ds, ρ', x1.st, rr, e, fun σ2 x2 p2 => k σ2 (x1.trans x2) (p1.trans p2)⟩⟩
theorem sem_gT {n : Nat} {gs : DGs} : ∀ v σ H Q, tSemG K P (gT n gs) v σ H Q → gTup K n (tSemGs K P gs) v σ H Q := fun v σ H Q ⟨F, ρ, d, ρ', s, r, e, k⟩ => by
  cases d with
  | tuple ds =>
    unfold gT at e
    simp only at e
    split at e
    case isFalse => cases e
    case isTrue hn =>
      cases r with
      | tup h rr => exact ⟨_, _, rfl, sqT_mono s.le h, by rw [rr.length]; exact hn, F, ρ, ds, ρ', s, rr, e, k⟩
  | _ => cases e
section
variable {X : Cx} {e : Expr} {es : List Expr} {g : DG} {gs : DGs} {pos : Pos}
theorem gn {i : Nat} {x : Str} (hP : ¬ P i) (hN : X.N.Nodup) (hi : X.N[i]? = some x) (hx : Loc X.env.scope x) (hf : X.fn x = true ∨ X.env.scope.names.lookup x = some .local := by first | exact .inl rfl | exact .inr rfl | assumption) : PG X (.Name x pos) (tSemG X.K P (gN i)) :=
  pgWeak (pg_name hN hi hx hf) (sem_gN hP)
theorem gsn : PGs X [] (tSemGs X.K P gsN) := pgsWeak pgs_nil sem_gsN
theorem gsc (h1 : PG X e (tSemG X.K P g)) (h2 : PGs X es (tSemGs X.K P gs))
    (hs : (assignEach (e :: es) X.env).map (·.2) = assign e X.env :: (assignEach es X.env).map (·.2) := by rfl) : PGs X (e :: es) (tSemGs X.K P (gsC g gs)) := pgsWeak (pgs_cons h1 h2 hs) sem_gsC
theorem gt {k n : Nat} (hc : X.calm = true) (h : PGs X es (tSemGs X.K P gs)) (hn : (assignEach es X.env).length = n := by rfl) (hst : (assignEach es X.env).findIdx? (·.1) = none := by rfl) : PG X (.Tuple es k pos) (tSemG X.K P (gT n gs)) :=
  pgWeak (pg_tup hc h hn hst) sem_gT
end
/-- a, b = a tuple; the targets take values for good -/
def dAsg (g : DG) (f : M Rs) : DS := fun ρ => match bd f frz ρ with
  | .bad => .bad
  | .ok d ρ1 => match g d ρ1 with
    | some ρ2 => .nx ρ2
    | none => .bad
theorem sem_asg {g : DG} {f : M Rs} : ∀ D σ H, tSemS K P (dAsg g f) D σ H → tAsg (tSem K f) (tSemG K P g) D σ H := fun D σ H ⟨F, ρ, s, h⟩ => by
  unfold dAsg at h
  cases e : bd f frz ρ with
  | bad => rw [e] at h; exact h.elim
  | ok d ρ1 =>
    rw [e] at h
    cases e2 : g d ρ1 with
    | none => simp only [e2] at h; exact h.elim
    | some ρ2 =>
      simp only [e2] at h
      obtain ⟨r, ρ3, e3, e4⟩ := bd_ok e
      refine ⟨F, ρ, r, ρ3, s, e3, fun F' H' v x q => ?_⟩
      obtain ⟨F2, x2, rp⟩ := frz_ok x q e4
      exact ⟨F2, ρ1, d, ρ2, x2.st, rp, e2, fun σ' y p => h F2 H' σ' (x2.trans y) p⟩
/-- a, b = x, y -/
def setQ (i : Nat) (r : Rs) : List Sl → Option (List Sl) := fun ρ => if i < ρ.length then match r with
    | .fz d => some (ρ.set i (.fz d))
    | .ow d => some (ρ.set i (.ow d))
    | .nm _ => none
  else none
def setQs : List Nat → List Rs → List Sl → Option (List Sl)
  | [], [], ρ => some ρ
  | i :: is, r :: rs, ρ => match setQ i r ρ with
    | some ρ' => setQs is rs ρ'
    | none => none
  | _, _, _ => none
def dPar (is : List Nat) (f : M (List Rs)) : DS := fun ρ => match bd f (argSA (is.map fun _ => false)) ρ with
  | .ok rs ρ2 => match setQs is rs ρ2 with
      | some ρ3 => .nx ρ3
      | none => .bad
  | .bad => .bad
def setVs : List Nat → List V → SS → SS
  | i :: is, v :: vs, σ => setVs is vs (σ.set i (some v))
  | _, _, σ => σ
theorem setQs_ok {F₀ H₀ : Hp} {σ₀ : SS} {ρ₀ : List Sl} : ∀ {is : List Nat} {vs : List V} {rs : List Rs} {σ : SS} {ρ ρ' : List Sl}, (∀ i ∈ is, ¬ P i) → Ext K F₀ H₀ σ₀ ρ₀ F H σ ρ → RsA K H₀ F H σ ρ vs rs → setQs is rs ρ = some ρ' →
    vs.length = is.length ∧ Ext K F₀ H₀ σ₀ ρ₀ F H (setVs is vs σ) ρ' ∧ Prot P σ (setVs is vs σ)
  | [], [], [], σ, ρ, ρ', _, x, h, e => by cases e; exact ⟨rfl, x, Prot.refl⟩
  | [], _, _ :: _, _, _, _, _, _, h, e => by cases e
  | _ :: _, _, [], _, _, _, _, _, h, e => by cases e
  | _, [], _ :: _, _, _, _, _, _, h, e => by have := h.len; simp at this
  | _, _ :: _, [], _, _, _, _, _, h, e => by have := h.len; simp at this
  | i :: is, v :: vs, r :: rs, σ, ρ, ρ', hP, x, h, e => by
    unfold setQs at e
    cases e1 : setQ i r ρ with
    | none => simp only [e1] at e; cases e
    | some ρ1 =>
      simp only [e1] at e
      have hd : ∃ ρ1', ρ1' = ρ1 ∧ Ext K F₀ H₀ σ₀ ρ₀ F H (σ.set i (some v)) ρ1 ∧ ∀ j b, HdAt (σ.set i (some v)) ρ1 j b → HdAt σ ρ j b ∨ ∃ d, r = .ow d ∧ v = .ref b := by
        refine ⟨ρ1, rfl, ?_⟩
        unfold setQ at e1
        split at e1
        case isFalse => cases e1
        case isTrue hi =>
          have hiσ : i < σ.length := by rw [x.st.len]; exact hi
          have q := h.tail.1
          cases r with
          | nm k => cases e1
          | fz d =>
            cases e1
            refine ⟨x.setSlot hi (.inl ⟨d, rfl, q⟩), fun j b z => .inl ?_⟩
            by_cases hj : i = j
            · subst hj
              rcases z with ⟨_, d', z⟩ | ⟨_, d', z⟩ <;> rw [List.getElem?_set_self hi] at z <;> cases z
            · rcases z with ⟨e, d', z⟩ | ⟨e, d', z⟩
              · rw [List.getElem?_set_ne hj] at e z; exact .inl ⟨e, d', z⟩
              · rw [List.getElem?_set_ne hj] at e z; exact .inr ⟨e, d', z⟩
          | ow d =>
            cases e1
            obtain ⟨a, h1, h2, h3, h4, h5⟩ := q
            refine ⟨x.setSlot hi (.inr ⟨d, a, rfl, h1, h2, h3, h4, h5⟩), fun j b z => ?_⟩
            by_cases hj : i = j
            · subst hj
              have eb : v = .ref b := by
                rcases z with ⟨e, d', z⟩ | ⟨e, d', z⟩ <;> rw [List.getElem?_set_self hiσ] at e <;> cases e <;> rfl
              exact .inr ⟨d, rfl, eb⟩
            · rcases z with ⟨e, d', z⟩ | ⟨e, d', z⟩
              · rw [List.getElem?_set_ne hj] at e z; exact .inl (.inl ⟨e, d', z⟩)
              · rw [List.getElem?_set_ne hj] at e z; exact .inl (.inr ⟨e, d', z⟩)
      obtain ⟨_, _, x1, hb⟩ := hd
      have h' : RsA K H₀ F H (σ.set i (some v)) ρ1 vs (rs.map fun r => match r with | .nm _ => .fz .none | r => r) → True := fun _ => trivial
      have h1 : (∀ r ∈ rs, ∀ k, r ≠ .nm k) := by
        have : ∀ {is : List Nat} {rs : List Rs} {ρ ρ' : List Sl}, setQs is rs ρ = some ρ' → ∀ r ∈ rs, ∀ k, r ≠ .nm k := by
          intro is rs
          induction rs generalizing is with
          | nil => intro _ _ _ r hr; cases hr
          | cons r rs ih =>
            intro ρ ρ' e r' hr k z
            cases is with
            | nil => cases e
            | cons i is =>
              unfold setQs at e
              cases e1 : setQ i r ρ with
              | none => simp only [e1] at e; cases e
              | some ρ1 =>
                simp only [e1] at e
                rcases List.mem_cons.mp hr with y | y
                · subst y; subst z
                  unfold setQ at e1
                  split at e1 <;> cases e1
                · exact ih e r' y k z
        exact this e
      have h2 : RsA K H₀ F H (σ.set i (some v)) ρ1 vs rs := ⟨h.tail.2.len, fun j w s g1 g2 => ?_, h.tail.2.dj⟩
      · obtain ⟨l, x2, p⟩ := setQs_ok (fun j hj => hP j (List.mem_cons_of_mem _ hj)) x1 h2 e
        exact ⟨by rw [List.length_cons, List.length_cons, l], x2, (prot_set (hP i List.mem_cons_self)).trans p⟩
      · have q := h.tail.2.at_ j w s g1 g2
        cases s with
        | fz d => exact q
        | nm k => exact (h1 _ (List.mem_of_getElem? g2) k rfl).elim
        | ow d =>
          obtain ⟨a, q1, q2, q3, q4, q5⟩ := q
          refine ⟨a, q1, q2, q3, q4, fun k z => ?_⟩
          rcases hb k a z with y | ⟨d', y1, y2⟩
          · exact q5 k y
          · have := h.dj 0 (j + 1) a d' d (by rw [y2]; rfl) (by rw [y1]; rfl) (by rw [← q1]; simpa using g1) (by simpa using g2)
            omega
theorem sem_par {i j : Nat} {f : M (List Rs)} (hi : ¬ P i) (hj : ¬ P j) : ∀ D σ H, tSemS K P (dPar [i, j] f) D σ H → tPar i j (tSemA K f) D σ H := fun D σ H ⟨F, ρ, s, h⟩ => by
  unfold dPar at h
  cases e : bd f (argSA ([i, j].map fun _ => false)) ρ with
  | bad => rw [e] at h; exact h.elim
  | ok rs ρ1 =>
    rw [e] at h
    cases e2 : setQs [i, j] rs ρ1 with
    | none => simp only [e2] at h; exact h.elim
    | some ρ2 =>
      simp only [e2] at h
      obtain ⟨r, ρ3, e3, e4⟩ := bd_ok e
      refine ⟨F, ρ, r, ρ3, s, e3, fun F' H' vs x q => ?_⟩
      obtain ⟨F2, x2, q2, _⟩ := argSA_ok x q e4
      obtain ⟨l, x3, p⟩ := setQs_ok (P := P) (fun k hk => by
        rcases List.mem_cons.mp hk with z | z
        · rw [z]; exact hi
        · rw [List.mem_singleton.mp z]; exact hj) x2 q2 e2
      match vs, l with
      | [v, w], _ => exact ⟨v, w, rfl, h F2 H' _ x3 p⟩
section
variable {X : Cx} {e : Expr} {f : M Rs} {pos : Pos}
theorem sset {i : Nat} {x : Str} {pos' : Pos} (hP : ¬ P i) (hN : X.N.Nodup) (hi : X.N[i]? = some x) (hx : Loc X.env.scope x) (he : PE X e (tSem X.K f)) (hs : swapsWith e (some (.Name x pos')) pos.line X.env = pure false := by rfl)
    (hf : X.fn x = true ∨ X.env.scope.names.lookup x = some .local := by first | exact .inl rfl | exact .inr rfl | assumption) : PS X (.Assign [.Name x pos'] e pos) (tSemS X.K P (dSet i f)) := psWeak (ps_set hN hi hx he hs hf) (sem_set hP)
theorem sasg {tg : Expr} {g : DG} (he : PE X e (tSem X.K f)) (hg : PG X tg (tSemG X.K P g)) (hs : swapsWithSole [tg] e pos.line X.env = pure false := by rfl) (hw : swappedStores [tg] e X.env = pure none := by rfl)
    (h1 : (assignEach [tg] X.env).map (·.2) = [assign tg X.env] := by rfl) : PS X (.Assign [tg] e pos) (tSemS X.K P (dAsg g f)) := psWeak (ps_asg he hg hs hw h1) sem_asg
theorem spar {i j : Nat} {x y : Str} {a b : Expr} {fa : M (List Rs)} {px py pt : Pos} {kt k2 pt2} (h1 : ¬ P i) (h2 : ¬ P j) (hc : X.calm = true) (hN : X.N.Nodup) (hi : X.N[i]? = some x) (hj : X.N[j]? = some y) (hij : i ≠ j)
    (hx : X.env.scope.names.lookup x = some .local) (hy : X.env.scope.names.lookup y = some .local) (ha : PA X [a, b] (tSemA X.K fa))
    (hw : swappedStores [.Tuple [.Name x px, .Name y py] kt pt] (.Tuple [a, b] k2 pt2) X.env = pure (some [x, y]) := by rfl)
    (hs : swapsWithSole [.Tuple [.Name x px, .Name y py] kt pt] (.Tuple [a, b] k2 pt2) pos.line X.env = pure false := by rfl) :
    PS X (.Assign [.Tuple [.Name x px, .Name y py] kt pt] (.Tuple [a, b] k2 pt2) pos) (tSemS X.K P (dPar [i, j] fa)) := psWeak (ps_par hc hN hi hj hij hx hy ha hw hs) (sem_par h1 h2)
end
end
end
end DL

namespace DL
open PySem PySem.Spec PyProof.Rows L2
section
variable {K : PySem.W.Frag} {F H F' H' : Hp} {σ σ' : SS} {ρ ρ' : List Sl}

/-! ### what is walked -/
/-- the iterator J yields the items ds, from heaps that hold what F0 and N hold -/
def ItOk (K : PySem.W.Frag) (F0 N : Hp) (J : It) (ds : List D) : Prop := ∀ (i : Nat) (F H : Hp), Same F0 F → Same F H → Same N H →
  (∀ d, ds[i]? = some d → J.go i H ∧ ∀ x H', J.yld i H x H' → ∃ F', Grow F H F' H' ∧ Rp K F' x d) ∧ (ds.length = i → J.stop i H)
abbrev Wk := List D × Option Nat
def unl (l : Option Nat) (ρ : List Sl) : List Sl := match l with
  | none => ρ
  | some i => match ρ[i]? with
    | some (.lk d) => ρ.set i (.ow d)
    | _ => ρ
/-- a lock may be opened again -/
def UnlOk (H : Hp) (σ : SS) (ρ ρ' : List Sl) (l : Option Nat) : Prop := ∀ i, l = some i → (∃ a, LkAt σ ρ' i a) ∧ ∀ b, LkAt σ ρ' i b → OwAt σ ρ i b ∨ H b = none
def tSemI (K : PySem.W.Frag) (w : M Wk) : TI := fun σ H R => ∃ F ρ ds l ρ', Sta K F H σ ρ ∧ w ρ = .ok (ds, l) ρ' ∧ ∀ F' H' N J, Ext K F H σ ρ F' H' σ ρ' → UnlOk H σ ρ ρ' l → Same N H' → (∀ b, N b ≠ none → ∀ i, ¬ OwAt σ ρ' i b) → ItOk K F' N J ds → R J H'
theorem piWeak {X : Cx} {tg e : Expr} {t t' : TI} (h : PI X tg e t) (w : ∀ σ H Q, t' σ H Q → t σ H Q) : PI X tg e t' :=
  ⟨fun pins s σ H Q I q => h.run pins s σ H Q I (w σ H Q q)⟩

/-- a list, a tuple or a text -/
def iSeq (K : PySem.W.Frag) (tl : TE) : TI := fun σ H R => tl σ H fun x H1 => (∃ a xs, x = .ref a ∧ SqL K H1 a xs ∧ R (Itl K a) H1) ∨ (∃ a xs, x = .ref a ∧ SqT K H1 a xs ∧ R (Itt K a) H1) ∨ (∃ z, x = .str z ∧ R (Its z) H1)
theorem pi_seq {X : Cx} {tg l : Expr} {tl : TE} (hl : PE X l tl) : PI X tg l (iSeq X.K tl) := by
  refine ⟨fun pins s σ H R I h => ?_⟩
  refine thn (hl.run pins s σ H _ I h) fun v s1 ⟨x, H1, I1, r1, q1⟩ => ?_
  rcases q1 with ⟨a, xs, e, hq, q⟩ | ⟨a, xs, e, hq, q⟩ | ⟨z, e, q⟩
  · have h2 : PE X l (fun _ H Q => Q x H) → True := fun _ => trivial
    subst e
    cases r1
    obtain ⟨its, rv, p, hz⟩ := I1.list hq
    refine wpAny_pyIter_list p.isList ?_
    refine ⟨s1.heap.objs.size, [s1.heap.objs.size], _, _, H1, rfl, I1.kept (t' := s1.toks) fun b o e => Heap.get?_push_of_some _ e, turn_list a _, ⟨_, Heap.get?_push_size _ rfl, rfl, rfl⟩, fun b hb => ?_, q⟩
    have e : b = s1.heap.objs.size := by simpa using hb
    subst e
    exact I1.fpOk (Nat.le_refl _) (I1.hok.fresh (Nat.le_refl _))
  · subst e
    cases r1
    obtain ⟨its, rv, p, hz⟩ := I1.tuple hq
    refine wpAny_pyIter_tuple (show s1.heap.IsTuple a its.toArray from p) ?_
    refine ⟨s1.heap.objs.size, [s1.heap.objs.size], _, _, H1, rfl, I1.kept (t' := s1.toks) fun b o e => Heap.get?_push_of_some _ e, turn_tuple a _, ⟨_, Heap.get?_push_size _ rfl, rfl, rfl⟩, fun b hb => ?_, q⟩
    have e : b = s1.heap.objs.size := by simpa using hb
    subst e
    exact I1.fpOk (Nat.le_refl _) (I1.hok.fresh (Nat.le_refl _))
  · subst e
    obtain ⟨t, rfl⟩ := r1
    exact strIter I1 q
where
  strIter {X : Cx} {tg : Expr} {pins : List (Addr × Obj)} {σ : SS} {H1 : Hp} {s1 : Shared} {z : Str} {t : Tok} {R : It → Hp → Prop} (I1 : Inv X pins σ H1 s1) (q : R (Its z) H1) :
      wpAny (model X.prog X.w) X.A (pyIter (.str z t)) (PIE X pins σ tg R) X.xe s1 := by
    cases ha : z.cps.all (· < 128)
    · exact wpAny_pyIter_wide ha (pi_one (tk := s1.toks) I1 _ (turn_str _ z t "str_iterator" (.inr rfl)) ⟨_, Heap.get?_push_size _ rfl, rfl, rfl⟩ q)
    · exact wpAny_pyIter_ascii ha (pi_one (tk := s1.toks) I1 _ (turn_str _ z t "str_ascii_iterator" (.inl rfl)) ⟨_, Heap.get?_push_size _ rfl, rfl, rfl⟩ q)
def seqItems : D → Option (List D)
  | .list ds => some ds
  | .tuple ds => some ds
  | .str x => some (x.cps.toList.map fun c => .str ⟨#[c]⟩)
  | _ => none
def wkOf (l : Option Nat) (d : D) : M Wk := opt ((seqItems d).map fun ds => (ds, l))
def dWk (f : M Rs) : M Wk := bd f fun r => match r with
  | .fz d => wkOf none d
  | .ow d => wkOf none d
  | .nm i => fun ρ => match ρ[i]? with
    | some (.fz d) => wkOf none d ρ
    | some (.ow d) => wkOf (some i) d (ρ.set i (.lk d))
    | some (.lk d) => wkOf none d ρ
    | _ => .bad
theorem itok_list {F0 N : Hp} {a : Addr} {vs : List V} {ds : List D} (h : ∀ F H, Same F0 F → Same F H → Same N H → SqL K H a vs) (r : RpA K F0 vs ds) : ItOk K F0 N (Itl K a) ds := fun i F H s1 s2 s3 => by
  have q := h F H s1 s2 s3
  refine ⟨fun d hd => ?_, fun hi => ⟨vs, q, by rw [r.length]; exact Nat.le_of_eq hi⟩⟩
  have hi : i < vs.length := by rw [r.length]; exact (List.getElem?_eq_some_iff.mp hd).1
  refine ⟨⟨vs, vs[i], q, List.getElem?_eq_getElem hi⟩, fun x H' y => ?_⟩
  obtain ⟨e, y⟩ := y
  subst e
  exact ⟨F, Grow.refl s2, (r.get (y vs q) hd).mono s1⟩
theorem itok_tup {F0 N : Hp} {a : Addr} {vs : List V} {ds : List D} (h : ∀ F H, Same F0 F → Same F H → Same N H → SqT K H a vs) (r : RpA K F0 vs ds) : ItOk K F0 N (Itt K a) ds := fun i F H s1 s2 s3 => by
  have q := h F H s1 s2 s3
  refine ⟨fun d hd => ?_, fun hi => ⟨vs, q, by rw [r.length]; exact Nat.le_of_eq hi⟩⟩
  have hi : i < vs.length := by rw [r.length]; exact (List.getElem?_eq_some_iff.mp hd).1
  refine ⟨⟨vs, vs[i], q, List.getElem?_eq_getElem hi⟩, fun x H' y => ?_⟩
  obtain ⟨e, y⟩ := y
  subst e
  exact ⟨F, Grow.refl s2, (r.get (y vs q) hd).mono s1⟩
theorem itok_str {F0 N : Hp} {z : Str} : ItOk K F0 N (Its z) (z.cps.toList.map fun c => .str ⟨#[c]⟩) := fun i F H s1 s2 s3 => by
  refine ⟨fun d hd => ?_, fun hi => by show z.cps.size ≤ i; simp at hi; omega⟩
  rw [List.getElem?_map] at hd
  cases e : z.cps.toList[i]? with
  | none => rw [e] at hd; cases hd
  | some c =>
    rw [e] at hd
    cases hd
    have hi : i < z.cps.size := by
      have := (List.getElem?_eq_some_iff.mp e).1
      simpa using this
    refine ⟨hi, fun x H' y => ?_⟩
    obtain ⟨e1, c', e2, e3⟩ := y
    subst e1; subst e3
    have : z.cps[i]? = some c := by rw [← Array.getElem?_toList]; exact e
    rw [this] at e2; cases e2
    exact ⟨F, Grow.refl s2, .str _⟩
theorem Ext.lock {F₀ H₀ : Hp} {σ₀ : SS} {ρ₀ : List Sl} {i : Nat} {d : D} (x : Ext K F₀ H₀ σ₀ ρ₀ F H σ ρ) (hρ : ρ[i]? = some (.ow d)) : Ext K F₀ H₀ σ₀ ρ₀ F H σ (ρ.set i (.lk d)) := by
  have hi : i < ρ.length := (List.getElem?_eq_some_iff.mp hρ).1
  have owB : ∀ j b, OwAt σ (ρ.set i (.lk d)) j b → OwAt σ ρ j b := fun j b ⟨e, d', q⟩ => by
    by_cases hj : i = j
    · subst hj; rw [List.getElem?_set_self hi] at q; cases q
    · rw [List.getElem?_set_ne hj] at q; exact ⟨e, d', q⟩
  have lkB : ∀ j b, LkAt σ (ρ.set i (.lk d)) j b → HdAt σ ρ j b := fun j b ⟨e, d', q⟩ => by
    by_cases hj : i = j
    · subst hj; exact .inl ⟨e, d, hρ⟩
    · rw [List.getElem?_set_ne hj] at q; exact .inr ⟨e, d', q⟩
  have hdB : ∀ j b, HdAt σ (ρ.set i (.lk d)) j b → HdAt σ ρ j b := fun j b q => q.elim (fun z => .inl (owB j b z)) (lkB j b)
  refine ⟨⟨x.st.le, by rw [List.length_set]; exact x.st.len, fun j s q => ?_, fun j k b h1 h2 => x.st.dj j k b (hdB j b h1) (hdB k b h2)⟩, x.fr, x.kp, x.nf, x.gr, fun j b q => x.ow j b (owB j b q), fun j b q => x.hd (lkB j b q)⟩
  by_cases hj : i = j
  · subst hj
    rw [List.getElem?_set_self hi] at q; cases q
    have z := x.st.sl i _ hρ
    exact z
  · rw [List.getElem?_set_ne hj] at q; exact x.st.sl j s q
theorem unlNone {H : Hp} : UnlOk H σ ρ ρ' none := fun _ e => nomatch e
theorem sem_wk {f : M Rs} : ∀ σ H R, tSemI K (dWk f) σ H R → iSeq K (tSem K f) σ H R := fun σ H R ⟨F, ρ, ds, l, ρ', s, e, k⟩ => by
  obtain ⟨r, ρ1, e1, e⟩ := bd_ok e
  refine ⟨F, ρ, r, ρ1, s, e1, fun F1 H1 v x1 q1 => ?_⟩
  -- a value for good
  have good : ∀ (F2 : Hp) (d : D), Ext K F H σ ρ F2 H1 σ ρ1 → Rp K F2 v d → wkOf none d ρ1 = .ok (ds, l) ρ' →
      (∃ a xs, v = .ref a ∧ SqL K H1 a xs ∧ R (Itl K a) H1) ∨ (∃ a xs, v = .ref a ∧ SqT K H1 a xs ∧ R (Itt K a) H1) ∨ (∃ z, v = .str z ∧ R (Its z) H1) := fun F2 d x2 rp e => by
    obtain ⟨e2, e3⟩ := opt_ok e
    subst e3
    have fin : ∀ J, l = none → ItOk K F2 F2 J ds → R J H1 := fun J hl it => k F2 H1 F2 J x2 (hl ▸ unlNone) x2.st.le (fun b nb i z => nb (x2.st.held (.inl z)).1) it
    cases d with
    | list ds' =>
      cases e2
      cases rp with
      | lst hq ra => exact .inl ⟨_, _, rfl, .inl (rd_mono x2.st.le hq), fin _ rfl (itok_list (fun F' H' g1 g2 g3 => .inl (rd_mono g3 hq)) ra)⟩
    | tuple ds' =>
      cases e2
      cases rp with
      | tup hq ra => exact .inr (.inl ⟨_, _, rfl, sqT_mono x2.st.le hq, fin _ rfl (itok_tup (fun F' H' g1 g2 g3 => sqT_mono g3 hq) ra)⟩)
    | str z =>
      cases e2
      cases rp
      exact .inr (.inr ⟨z, rfl, fin _ rfl itok_str⟩)
    | _ => cases e2
  -- a list that slot i holds, locked
  have held : ∀ (i : Nat) (a : Addr) (d : D) (ρ2 : List Sl), v = .ref a → F1 a = none → Ob K F1 H1 a d → Ext K F H σ ρ F1 H1 σ ρ2 → (∀ j, ¬ OwAt σ ρ2 j a) → UnlOk H σ ρ ρ2 l → wkOf l d ρ2 = .ok (ds, l) ρ' →
      (∃ a xs, v = .ref a ∧ SqL K H1 a xs ∧ R (Itl K a) H1) ∨ (∃ a xs, v = .ref a ∧ SqT K H1 a xs ∧ R (Itt K a) H1) ∨ (∃ z, v = .str z ∧ R (Its z) H1) := fun i a d ρ2 hv hf ho x2 hno hu e => by
    obtain ⟨e2, e3⟩ := opt_ok e
    subst e3
    cases d with
    | list ds' =>
      cases e2
      obtain ⟨vs, eo, ra⟩ := ho
      refine .inl ⟨a, vs, hv, .inl (.inl eo), k F1 H1 (upd F1 a (.lst vs)) _ x2 hu (same_upd_le x2.st.le eo) (fun b nb j z => ?_) (itok_list (fun F' H' g1 g2 g3 => .inl (.inl (g3 _ _ upd_same))) ra)⟩
      by_cases hb : b = a
      · subst hb; exact hno j z
      · rw [upd_ne hb] at nb; exact nb (x2.st.held (.inl z)).1
    | dict _ => cases e2
    | _ => exact ho.elim
  cases r with
  | fz d => exact good F1 d x1 q1 e
  | ow d =>
    obtain ⟨a, e2, h0, hf, ho, hn⟩ := q1
    obtain ⟨F2, x2, rp, _⟩ := x1.freezeNew h0 hf ho hn
    subst e2
    exact good F2 d x2 rp e
  | nm i =>
    have q1 : σ[i]? = some (some v) := q1
    simp only at e
    cases q : ρ1[i]? with
    | none => rw [q] at e; cases e
    | some sl =>
      rw [q] at e
      have z := x1.st.sl i sl q
      cases sl with
      | em => cases e
      | fz d =>
        obtain ⟨w, w1, w2⟩ := z
        rw [q1] at w1; cases w1
        exact good F1 d x1 w2 e
      | ow d =>
        obtain ⟨a, w1, w2, w3⟩ := z
        rw [q1] at w1; cases w1
        have hi : i < ρ1.length := (List.getElem?_eq_some_iff.mp q).1
        have hl : l = some i := by
          have := (opt_ok e).1
          cases y : seqItems d with
          | none => rw [y] at this; cases this
          | some _ => rw [y] at this; cases this; rfl
        subst hl
        refine held i a d (ρ1.set i (.lk d)) rfl w2 w3 (x1.lock q) (fun j z => ?_) (fun j ej => ?_) e
        · obtain ⟨y, d', y2⟩ := z
          by_cases hj : i = j
          · subst hj; rw [List.getElem?_set_self hi] at y2; cases y2
          · rw [List.getElem?_set_ne hj] at y2
            exact hj (x1.st.dj i j a (.inl ⟨q1, d, q⟩) (.inl ⟨y, d', y2⟩))
        · cases ej
          exact ⟨⟨a, q1, d, List.getElem?_set_self hi⟩, fun b z => x1.ow i b ⟨z.1, d, q⟩⟩
      | lk d =>
        obtain ⟨a, w1, w2, w3⟩ := z
        rw [q1] at w1; cases w1
        have hl : l = none := by
          have := (opt_ok e).1
          cases y : seqItems d with
          | none => rw [y] at this; cases this
          | some _ => rw [y] at this; cases this; rfl
        subst hl
        refine held i a d ρ1 rfl w2 w3 x1 (fun j z => ?_) unlNone e
        have ej := x1.st.dj i j a (.inr ⟨q1, d, q⟩) (.inl z)
        subst ej
        obtain ⟨_, d', y2⟩ := z
        rw [q] at y2; cases y2
theorem iw {X : Cx} {tg e : Expr} {f : M Rs} (h : PE X e (tSem X.K f)) : PI X tg e (tSemI X.K (dWk f)) := piWeak (pi_seq h) sem_wk

/-! ### for -/
def unlS (l : Option Nat) : SR → SR
  | .nx ρ => .nx (unl l ρ)
  | .rt r ρ => .rt r (unl l ρ)
  | _ => .bad
def forGo (g : DG) (body : DS) : List D → DS
  | [], ρ => .nx ρ
  | d :: ds, ρ => match g d ρ with
    | none => .bad
    | some ρ1 => match body ρ1 with
      | .nx ρ2 => forGo g body ds ρ2
      | .ct ρ2 => forGo g body ds ρ2
      | .bk ρ2 => .nx ρ2
      | .rt r ρ2 => .rt r ρ2
      | .bad => .bad
def dFor (w : M Wk) (g : DG) (body : DS) : DS := fun ρ => match w ρ with
  | .bad => .bad
  | .ok (ds, l) ρ1 => unlS l (forGo g body ds ρ1)
theorem unl_len (l : Option Nat) (ρ : List Sl) : (unl l ρ).length = ρ.length := by
  unfold unl
  split
  · rfl
  · split
    · rw [List.length_set]
    · rfl
theorem unl_at {l : Option Nat} {j : Nat} : (unl l ρ)[j]? = ρ[j]? ∨ ∃ d, l = some j ∧ ρ[j]? = some (.lk d) ∧ (unl l ρ)[j]? = some (.ow d) := by
  unfold unl
  split
  · exact .inl rfl
  · rename_i i
    split
    · rename_i d e
      by_cases hj : i = j
      · subst hj
        exact .inr ⟨d, rfl, e, by rw [List.getElem?_set_self (List.getElem?_eq_some_iff.mp e).1]⟩
      · exact .inl (List.getElem?_set_ne hj)
    · exact .inl rfl
theorem unl_hd {l : Option Nat} {j : Nat} {b : Addr} (h : HdAt σ (unl l ρ) j b) : HdAt σ ρ j b := by
  rcases unl_at (ρ := ρ) (l := l) (j := j) with e | ⟨d, _, e1, e2⟩
  · unfold HdAt OwAt LkAt at h ⊢
    rw [e] at h; exact h
  · rcases h with ⟨h, _⟩ | ⟨h, _⟩ <;> exact .inr ⟨h, d, e1⟩
/-- behind a loop the lock is opened -/
theorem Ext.unlock {F₀ H₀ : Hp} {σ₀ : SS} {ρ₀ ρ₁ : List Sl} {F₁ H₁ : Hp} {l : Option Nat} (x0 : Ext K F₀ H₀ σ₀ ρ₀ F₁ H₁ σ₀ ρ₁) (hu : UnlOk H₀ σ₀ ρ₀ ρ₁ l) (x : Ext K F₁ H₁ σ₀ ρ₁ F H σ ρ) :
    Ext K F₀ H₀ σ₀ ρ₀ F H σ (unl l ρ) := by
  have y := x0.trans x
  have owB : ∀ j b, OwAt σ (unl l ρ) j b → OwAt σ ρ j b ∨ (l = some j ∧ LkAt σ ρ j b) := fun j b ⟨e, d, q⟩ => by
    rcases unl_at (ρ := ρ) (l := l) (j := j) with z | ⟨d', z0, z1, z2⟩
    · rw [z] at q; exact .inl ⟨e, d, q⟩
    · exact .inr ⟨z0, e, d', z1⟩
  have lkB : ∀ j b, LkAt σ (unl l ρ) j b → LkAt σ ρ j b := fun j b ⟨e, d, q⟩ => by
    rcases unl_at (ρ := ρ) (l := l) (j := j) with z | ⟨d', z0, z1, z2⟩
    · rw [z] at q; exact ⟨e, d, q⟩
    · rw [z2] at q; cases q
  refine ⟨⟨y.st.le, by rw [unl_len]; exact y.st.len, fun j s q => ?_, fun j k b h1 h2 => y.st.dj j k b (unl_hd h1) (unl_hd h2)⟩, y.fr, y.kp, y.nf, y.gr, fun j b q => ?_, fun j b q => y.lk j b (lkB j b q)⟩
  · rcases unl_at (ρ := ρ) (l := l) (j := j) with z | ⟨d', z0, z1, z2⟩
    · rw [z] at q; exact y.st.sl j s q
    · rw [z2] at q; cases q
      have w := y.st.sl j _ z1
      exact w
  · rcases owB j b q with z | ⟨hl, z⟩
    · exact y.ow j b z
    · -- it was locked through the loop
      obtain ⟨⟨a, ha⟩, hu'⟩ := hu j hl
      rcases x.lk j b z with w | w
      · have : LkAt σ₀ ρ₁ j b := by
          rcases w with ⟨_, d, w⟩ | w
          · obtain ⟨_, d', w'⟩ := ha
            rw [w] at w'; cases w'
          · exact w
        exact hu' b this
      · exact .inr (x0.back w)
theorem forGo_drop {g : DG} {body : DS} {ds : List D} {i : Nat} {d : D} (h : ds[i]? = some d) : forGo g body (ds.drop i) = forGo g body (d :: ds.drop (i + 1)) := by
  have hi := (List.getElem?_eq_some_iff.mp h).1
  rw [List.drop_eq_getElem_cons hi]
  have : ds[i] = d := (List.getElem?_eq_some_iff.mp h).2
  rw [this]
theorem sem_for {P : Nat → Prop} {w : M Wk} {g : DG} {body : DS} : ∀ D σ H, tSemS K P (dFor w g body) D σ H → tFor (tSemI K w) (tSemG K P g) (tSemS K P body) D σ H := fun D σ H ⟨F, ρ, s, h⟩ => by
  unfold dFor at h
  cases e : w ρ with
  | bad => rw [e] at h; exact h.elim
  | ok a ρ1 =>
    obtain ⟨ds, l⟩ := a
    rw [e] at h
    refine ⟨F, ρ, ds, l, ρ1, s, e, fun F1 H1 N J x1 hu sN hN it => ?_⟩
    simp only at h
    generalize hres : forGo g body ds ρ1 = res at h
    -- what the end asks
    have fin_nx : ∀ F' H' σ' ρ', res = .nx ρ' → Ext K F1 H1 σ ρ1 F' H' σ' ρ' → Prot P σ σ' → D.nx σ' H' := fun F' H' σ' ρ' er x p => by
      subst er
      exact h F' H' σ' (x1.unlock hu x) p
    have fin_rt : ∀ F' H' σ' ρ' r v, res = .rt r ρ' → Ext K F1 H1 σ ρ1 F' H' σ' ρ' → Prot P σ σ' → RsR K H F' H' σ' ρ' v r → D.rt v H' := fun F' H' σ' ρ' r v er x p q => by
      subst er
      refine h F' H' σ' v (x1.unlock hu x) p ?_
      cases r with
      | fz d => exact q
      | nm i => exact q
      | ow d =>
        obtain ⟨a, q1, q2, q3, q4, q5⟩ := q
        exact ⟨a, q1, q2, q3, q4, fun i z => q5 i (unl_hd z)⟩
    have fin_no : res = .bad → False := fun er => by subst er; exact h
    refine ⟨fun i m σ' H' => m = ds.length - i ∧ i ≤ ds.length ∧ ∃ F' ρ', Ext K F1 H1 σ ρ1 F' H' σ' ρ' ∧ Prot P σ σ' ∧ forGo g body (ds.drop i) ρ' = res, ⟨ds.length, by simp, Nat.zero_le _, F1, ρ1, Ext.refl x1.st, Prot.refl, by simpa using hres⟩, ?_⟩
    rintro i m σ' H' ⟨rfl, hi, F', ρ', x, p, er⟩
    have sN' : Same N H' := fun b o eb => x.kp b o (sN b o eb) (hN b (by rw [eb]; exact fun z => nomatch z))
    obtain ⟨itg, its⟩ := it i F' H' x.fr x.st.le sN'
    by_cases hlt : i < ds.length
    · have hd : ds[i]? = some ds[i] := List.getElem?_eq_getElem hlt
      obtain ⟨go, yl⟩ := itg _ hd
      rw [forGo_drop hd] at er
      refine .inr ⟨go, fun σ2 H2 => ∃ F2 ρ2, Ext K F1 H1 σ ρ1 F2 H2 σ2 ρ2 ∧ Prot P σ σ2 ∧ forGo g body (ds.drop (i + 1)) ρ2 = res, fun σ2 H2 q => ⟨ds.length - (i + 1), by omega, rfl, hlt, q⟩, fun v H2 y => ?_⟩
      obtain ⟨F2, gr, rp⟩ := yl v H2 y
      have x2 := x.trans (x.st.grow gr)
      unfold forGo at er
      cases eg : g ds[i] ρ' with
      | none => rw [eg] at er; exact (fin_no er.symm).elim
      | some ρ2 =>
        rw [eg] at er
        refine ⟨F2, ρ', ds[i], ρ2, x2.st, rp, eg, fun σ3 x3 p3 => ⟨F2, ρ2, x3.st, ?_⟩⟩
        have x4 := x2.trans x3
        have p4 := p.trans p3
        simp only at er
        cases eb : body ρ2 with
        | nx ρ5 => simp only [eb] at er; exact fun F5 H5 σ5 x5 p5 => ⟨F5, ρ5, x4.trans x5, p4.trans p5, er⟩
        | ct ρ5 => simp only [eb] at er; exact fun F5 H5 σ5 x5 p5 => ⟨F5, ρ5, x4.trans x5, p4.trans p5, er⟩
        | bk ρ5 => simp only [eb] at er; exact fun F5 H5 σ5 x5 p5 => fin_nx F5 H5 σ5 ρ5 er.symm (x4.trans x5) (p4.trans p5)
        | rt r ρ5 => simp only [eb] at er; exact fun F5 H5 σ5 v x5 p5 q => fin_rt F5 H5 σ5 ρ5 r v er.symm (x4.trans x5) (p4.trans p5) (q.base fun a z => x1.back (x4.back z))
        | bad => simp only [eb] at er; exact (fin_no er.symm).elim
    · have ei : i = ds.length := by omega
      subst ei
      rw [List.drop_length] at er
      exact .inl ⟨its rfl, fin_nx F' H' σ' ρ' er.symm x p⟩

/-! ### while -/
def whileGo (c : M Bool) (body : DS) : Nat → DS
  | 0 => fun _ => .bad
  | n + 1 => fun ρ => match c ρ with
    | .bad => .bad
    | .ok false ρ1 => .nx ρ1
    | .ok true ρ1 => match body ρ1 with
      | .nx ρ2 => whileGo c body n ρ2
      | .ct ρ2 => whileGo c body n ρ2
      | .bk ρ2 => .nx ρ2
      | .rt r ρ2 => .rt r ρ2
      | .bad => .bad
def dWhile (n : Nat) (c : M Bool) (body : DS) : DS := whileGo c body n
theorem sem_while {P : Nat → Prop} {n : Nat} {c : M Bool} {body : DS} : ∀ D σ H, tSemS K P (dWhile n c body) D σ H → tWhile (tSemT K c) (tSemS K P body) D σ H := fun D σ H ⟨F, ρ, s, h⟩ => by
  unfold dWhile at h
  generalize hres : whileGo c body n ρ = res at h
  refine ⟨fun m σ' H' => ∃ F' ρ', Ext K F H σ ρ F' H' σ' ρ' ∧ Prot P σ σ' ∧ whileGo c body m ρ' = res, ⟨n, F, ρ, Ext.refl s, Prot.refl, hres⟩, ?_⟩
  rintro m σ' H' ⟨F', ρ', x, p, er⟩
  cases m with
  | zero => unfold whileGo at er; subst er; exact h.elim
  | succ m =>
    unfold whileGo at er
    cases ec : c ρ' with
    | bad => rw [ec] at er; subst er; exact h.elim
    | ok b ρ1 =>
      rw [ec] at er
      refine ⟨F', ρ', b, ρ1, x.st, ec, fun F2 H2 x2 => ?_⟩
      cases b with
      | false => subst er; exact iteF (h F2 H2 σ' (x.trans x2) p)
      | true =>
        refine iteT ⟨fun σ3 H3 => ∃ F3 ρ3, Ext K F H σ ρ F3 H3 σ3 ρ3 ∧ Prot P σ σ3 ∧ whileGo c body m ρ3 = res, fun σ3 H3 q => ⟨m, Nat.lt_succ_self m, q⟩, F2, ρ1, x2.st, ?_⟩
        have x4 := x.trans x2
        simp only at er
        cases eb : body ρ1 with
        | nx ρ5 => simp only [eb] at er; exact fun F5 H5 σ5 x5 p5 => ⟨F5, ρ5, x4.trans x5, p.trans p5, er⟩
        | ct ρ5 => simp only [eb] at er; exact fun F5 H5 σ5 x5 p5 => ⟨F5, ρ5, x4.trans x5, p.trans p5, er⟩
        | bk ρ5 => simp only [eb] at er; subst er; exact fun F5 H5 σ5 x5 p5 => h F5 H5 σ5 (x4.trans x5) (p.trans p5)
        | rt r ρ5 => simp only [eb] at er; subst er; exact fun F5 H5 σ5 v x5 p5 q => h F5 H5 σ5 v (x4.trans x5) (p.trans p5) (q.base fun a z => x4.back z)
        | bad => simp only [eb] at er; subst er; exact h.elim
section
variable {X : Cx} {P : Nat → Prop} {pos : Pos} {f : DS} {w : M Wk} {g : DG} {tg iter : Expr} {body : List Stmt}
theorem sfor (hp : PassesOwn (model X.prog X.w) X.A X.env X.xe) (hc : X.calm = true) (hi : PI X tg iter (tSemI X.K w)) (hg : PG X tg (tSemG X.K P g)) (hb : PSs X body (tSemS X.K P f))
    (hs : ∀ x, foldedSetIterable iter X.env x = pure x := by intro _; rfl) : PS X (.For tg iter body [] pos) (tSemS X.K P (dFor w g f)) := psWeak (ps_for hp hc hi hg hb hs) sem_for
theorem swhile {n : Nat} {c : Expr} {tc : M Bool} (hp : PassesOwn (model X.prog X.w) X.A X.env X.xe) (hc : PT X c (tSemT X.K tc)) (hb : PSs X body (tSemS X.K P f)) : PS X (.While c body [] pos) (tSemS X.K P (dWhile n tc f)) := psWeak (ps_while hp hc hb) sem_while
end

/-! ### ranges -/
def dRng1 (f : M (List Rs)) : M Wk := bd f fun rs => bd (lookA rs) fun ds => opt (match ds with
  | [.int j] => if -(2 ^ 62) ≤ j ∧ j < 2 ^ 62 then some ((List.range j.toNat).map fun k => .int (k : Nat), none) else none
  | _ => none)
def dRng2 (f : M (List Rs)) : M Wk := bd f fun rs => bd (lookA rs) fun ds => opt (match ds with
  | [.int i, .int j] => if -(2 ^ 62) ≤ i ∧ i < 2 ^ 62 ∧ -(2 ^ 62) ≤ j ∧ j < 2 ^ 62 then some ((List.range (j - i).toNat).map fun k => .int (i + (k : Nat)), none) else none
  | _ => none)
theorem itok_range {F0 N : Hp} {lo : Int} {n : Nat} : ItOk K F0 N (Itr lo n) ((List.range n).map fun k => .int (lo + (k : Nat))) := fun i F H s1 s2 s3 => by
  refine ⟨fun d hd => ?_, fun hi => by show n ≤ i; simp at hi; omega⟩
  rw [List.getElem?_map] at hd
  cases e : (List.range n)[i]? with
  | none => rw [e] at hd; cases hd
  | some c =>
    rw [e] at hd
    cases hd
    obtain ⟨h1, h2⟩ := List.getElem?_eq_some_iff.mp e
    have hi : i < n := by simpa using h1
    have : c = i := by simpa using h2.symm
    subst this
    refine ⟨hi, fun x H' y => ?_⟩
    obtain ⟨e1, e2⟩ := y
    subst e1; subst e2
    exact ⟨F, Grow.refl s2, .int _⟩
theorem VwA.one {v : List V} {d : D} (h : VwA K F H v [d]) : ∃ x, v = [x] ∧ Vw K F H x d := by
  match v, h with
  | [x], h => exact ⟨x, rfl, h.1⟩
theorem VwA.two {v : List V} {d e : D} (h : VwA K F H v [d, e]) : ∃ x y, v = [x, y] ∧ Vw K F H x d ∧ Vw K F H y e := by
  match v, h with
  | [x, y], h => exact ⟨x, y, rfl, h.1, h.2.1⟩
theorem VwA.three {v : List V} {d e f : D} (h : VwA K F H v [d, e, f]) : ∃ x y z, v = [x, y, z] ∧ Vw K F H x d ∧ Vw K F H y e ∧ Vw K F H z f := by
  match v, h with
  | [x, y, z], h => exact ⟨x, y, z, rfl, h.1, h.2.1, h.2.2.1⟩
theorem sem_rng1 {f : M (List Rs)} : ∀ σ H R, tSemI K (dRng1 f) σ H R → iRng1 (tSemA K f) σ H R := fun σ H R ⟨F, ρ, ds, l, ρ', s, e, k⟩ => by
  obtain ⟨rs, ρ1, e1, e⟩ := bd_ok e
  obtain ⟨da, ρ2, e2, e⟩ := bd_ok e
  obtain ⟨e3, e4⟩ := opt_ok e
  subst e4
  refine ⟨F, ρ, rs, ρ1, s, e1, fun F1 H1 vs x1 q1 => ?_⟩
  obtain ⟨z, w⟩ := lookA_ok x1.st q1 e2
  subst z
  split at e3
  · rename_i j
    split at e3
    · rename_i hj
      cases e3
      obtain ⟨x, rfl, wx⟩ := w.one
      rw [wx.int]
      refine ⟨j, rfl, hj.1, hj.2, k F1 H1 F1 _ x1 unlNone x1.st.le (fun b nb i z => nb (x1.st.held (.inl z)).1) ?_⟩
      have := itok_range (K := K) (F0 := F1) (N := F1) (lo := 0) (n := j.toNat)
      simpa using this
    · cases e3
  · cases e3
theorem sem_rng2 {f : M (List Rs)} : ∀ σ H R, tSemI K (dRng2 f) σ H R → iRng2 (tSemA K f) σ H R := fun σ H R ⟨F, ρ, ds, l, ρ', s, e, k⟩ => by
  obtain ⟨rs, ρ1, e1, e⟩ := bd_ok e
  obtain ⟨da, ρ2, e2, e⟩ := bd_ok e
  obtain ⟨e3, e4⟩ := opt_ok e
  subst e4
  refine ⟨F, ρ, rs, ρ1, s, e1, fun F1 H1 vs x1 q1 => ?_⟩
  obtain ⟨z, w⟩ := lookA_ok x1.st q1 e2
  subst z
  split at e3
  · rename_i i j
    split at e3
    · rename_i hj
      cases e3
      obtain ⟨x, y, rfl, wx, wy⟩ := w.two
      rw [wx.int, wy.int]
      exact ⟨i, j, rfl, hj, k F1 H1 F1 _ x1 unlNone x1.st.le (fun b nb i z => nb (x1.st.held (.inl z)).1) itok_range⟩
    · cases e3
  · cases e3
section
variable {X : Cx} {tg : Expr}
theorem ir1 {a : Expr} {fa : M (List Rs)} {p pos : Pos} (hg : Gl X "range") (hm : X.mg "range" = none) (ha : PA X [a] (tSemA X.K fa)) (hs : starEach [a] X.env = [(false, eval a X.env)] := by rfl) : PI X tg (.Call (.Name "range" p) [a] [] pos) (tSemI X.K (dRng1 fa)) :=
  piWeak (pi_range1 hg hm ha hs) sem_rng1
theorem ir2 {a b : Expr} {fa : M (List Rs)} {p pos : Pos} (hg : Gl X "range") (hm : X.mg "range" = none) (ha : PA X [a, b] (tSemA X.K fa)) (hs : starEach [a, b] X.env = [(false, eval a X.env), (false, eval b X.env)] := by rfl) (hs2 : starEach [b] X.env = [(false, eval b X.env)] := by rfl) :
    PI X tg (.Call (.Name "range" p) [a, b] [] pos) (tSemI X.K (dRng2 fa)) := piWeak (pi_range2 hg hm ha hs hs2) sem_rng2
end
end
end DL

namespace DL
open PySem PySem.Spec PyProof.Rows L2
section
variable {K : PySem.W.Frag} {F H F' H' : Hp} {σ σ' : SS} {ρ ρ' : List Sl}

/-! ### list comprehensions -/
def wipeR (own : List Nat) (ρ : List Sl) : List Sl := match own with
  | [] => ρ
  | i :: is => (wipeR is ρ).set i .em
/-- the slots of own as they were in ρ -/
def restore (own : List Nat) (ρ ρ' : List Sl) : List Sl := match own with
  | [] => ρ'
  | i :: is => match ρ[i]? with
    | some s => (restore is ρ ρ').set i s
    | none => restore is ρ ρ'
theorem wipeR_len (ρ : List Sl) : ∀ own, (wipeR own ρ).length = ρ.length
  | [] => rfl
  | i :: is => by unfold wipeR; rw [List.length_set, wipeR_len ρ is]
theorem wipeR_in {i : Nat} (hi : i < ρ.length) : ∀ {own : List Nat}, i ∈ own → (wipeR own ρ)[i]? = some .em
  | [], h => by cases h
  | j :: js, h => by
    unfold wipeR
    by_cases hj : j = i
    · subst hj; rw [List.getElem?_set_self (by rw [wipeR_len]; exact hi)]
    · rw [List.getElem?_set_ne hj]
      exact wipeR_in hi ((List.mem_cons.mp h).resolve_left fun z => hj z.symm)
theorem wipeR_out {i : Nat} : ∀ {own : List Nat}, i ∉ own → (wipeR own ρ)[i]? = ρ[i]?
  | [], h => rfl
  | j :: js, h => by
    unfold wipeR
    have hj : j ≠ i := fun z => h (z ▸ List.mem_cons_self)
    rw [List.getElem?_set_ne hj]
    exact wipeR_out fun z => h (List.mem_cons_of_mem _ z)
theorem restore_len (hl : ρ'.length = ρ.length) : ∀ own, (restore own ρ ρ').length = ρ.length
  | [] => hl
  | i :: is => by
    unfold restore
    split
    · rw [List.length_set, restore_len hl is]
    · exact restore_len hl is
theorem restore_in {i : Nat} (hl : ρ'.length = ρ.length) (hi : i < ρ.length) : ∀ {own : List Nat}, i ∈ own → (restore own ρ ρ')[i]? = ρ[i]?
  | [], h => by cases h
  | j :: js, h => by
    unfold restore
    by_cases hj : j = i
    · subst hj
      rw [List.getElem?_eq_getElem hi]
      simp only
      rw [List.getElem?_set_self (by rw [restore_len hl]; exact hi)]
    · have := restore_in hl hi (own := js) ((List.mem_cons.mp h).resolve_left fun z => hj z.symm)
      split
      · rw [List.getElem?_set_ne hj]; exact this
      · exact this
theorem restore_out {i : Nat} : ∀ {own : List Nat}, i ∉ own → (restore own ρ ρ')[i]? = ρ'[i]?
  | [], h => rfl
  | j :: js, h => by
    unfold restore
    have hj : j ≠ i := fun z => h (z ▸ List.mem_cons_self)
    have := restore_out (own := js) fun z => h (List.mem_cons_of_mem _ z)
    split
    · rw [List.getElem?_set_ne hj]; exact this
    · exact this
theorem wipe_in {i : Nat} (hi : i < σ.length) : ∀ {own : List Nat}, i ∈ own → (wipe σ own)[i]? = some none
  | [], h => by cases h
  | j :: js, h => by
    unfold wipe
    by_cases hj : j = i
    · subst hj; rw [List.getElem?_set_self (by rw [wipe_length]; exact hi)]
    · rw [List.getElem?_set_ne hj]
      exact wipe_in hi ((List.mem_cons.mp h).resolve_left fun z => hj z.symm)
theorem wipe_out {i : Nat} : ∀ {own : List Nat}, i ∉ own → (wipe σ own)[i]? = σ[i]?
  | [], h => rfl
  | j :: js, h => by
    unfold wipe
    have hj : j ≠ i := fun z => h (z ▸ List.mem_cons_self)
    rw [List.getElem?_set_ne hj]
    exact wipe_out fun z => h (List.mem_cons_of_mem _ z)
theorem wipe_eq {own : List Nat} (hl : σ'.length = σ.length) (h : ∀ i, i ∉ own → σ'[i]? = σ[i]?) : wipe σ' own = wipe σ own := by
  refine List.ext_getElem? fun i => ?_
  by_cases hi : i ∈ own
  · by_cases hl' : i < σ.length
    · rw [wipe_in hl' hi, wipe_in (by omega) hi]
    · rw [List.getElem?_eq_none (by rw [wipe_length]; omega), List.getElem?_eq_none (by rw [wipe_length]; omega)]
  · rw [wipe_out hi, wipe_out hi, h i hi]
theorem wipe_wipe {own : List Nat} : wipe (wipe σ own) own = wipe σ own := wipe_eq (wipe_length _ _) fun i h => wipe_out h
section
variable {own : List Nat}
theorem wipe_hd (hl : σ.length = ρ.length) {σ1 : SS} (h1 : ∀ i, i ∉ own → σ1[i]? = σ[i]?) {i : Nat} {b : Addr} : HdAt σ1 (wipeR own ρ) i b → i ∉ own ∧ HdAt σ ρ i b := fun h => by
  have hno : i ∉ own := fun hi => by
    by_cases hi' : i < ρ.length
    · rcases h with ⟨_, d, q⟩ | ⟨_, d, q⟩ <;> rw [wipeR_in hi' hi] at q <;> cases q
    · rcases h with ⟨_, d, q⟩ | ⟨_, d, q⟩ <;> rw [List.getElem?_eq_none (by rw [wipeR_len]; omega)] at q <;> cases q
  refine ⟨hno, ?_⟩
  rcases h with ⟨e, d, q⟩ | ⟨e, d, q⟩
  · rw [wipeR_out hno] at q; rw [h1 i hno] at e; exact .inl ⟨e, d, q⟩
  · rw [wipeR_out hno] at q; rw [h1 i hno] at e; exact .inr ⟨e, d, q⟩
theorem wipe_ow (hl : σ.length = ρ.length) {σ1 : SS} (h1 : ∀ i, i ∉ own → σ1[i]? = σ[i]?) {i : Nat} {b : Addr} : OwAt σ1 (wipeR own ρ) i b → i ∉ own ∧ OwAt σ ρ i b := fun h => by
  obtain ⟨hno, _⟩ := wipe_hd hl h1 (.inl h)
  obtain ⟨e, d, q⟩ := h
  rw [wipeR_out hno] at q; rw [h1 i hno] at e
  exact ⟨hno, e, d, q⟩
theorem wipe_lk (hl : σ.length = ρ.length) {σ1 : SS} (h1 : ∀ i, i ∉ own → σ1[i]? = σ[i]?) {i : Nat} {b : Addr} : LkAt σ1 (wipeR own ρ) i b → i ∉ own ∧ LkAt σ ρ i b := fun h => by
  obtain ⟨hno, _⟩ := wipe_hd hl h1 (.inr h)
  obtain ⟨e, d, q⟩ := h
  rw [wipeR_out hno] at q; rw [h1 i hno] at e
  exact ⟨hno, e, d, q⟩
/-- the block's own names forgotten, the values of the others as they stand -/
theorem Sta.wiped (s : Sta K F H σ ρ) {σ1 : SS} (l1 : σ1.length = σ.length) (h1 : ∀ i, i ∉ own → σ1[i]? = σ[i]?) : Sta K F H σ1 (wipeR own ρ) := by
  refine ⟨s.le, by rw [wipeR_len, l1]; exact s.len, fun i sl q => ?_, fun i j b h2 h3 => s.dj i j b (wipe_hd s.len h1 h2).2 (wipe_hd s.len h1 h3).2⟩
  by_cases hi : i ∈ own
  · have hlt : i < ρ.length := by
      have := (List.getElem?_eq_some_iff.mp q).1
      rw [wipeR_len] at this; exact this
    rw [wipeR_in hlt hi] at q; cases q; trivial
  · rw [wipeR_out hi] at q
    rw [h1 i hi]; exact s.sl i sl q
theorem Ext.wiped {F₀ H₀ : Hp} {σ₀ : SS} {ρ₀ : List Sl} (x : Ext K F₀ H₀ σ₀ ρ₀ F H σ ρ) {σ1 : SS} (l1 : σ1.length = σ.length) (h1 : ∀ i, i ∉ own → σ1[i]? = σ[i]?) : Ext K F₀ H₀ σ₀ ρ₀ F H σ1 (wipeR own ρ) :=
  ⟨x.st.wiped l1 h1, x.fr, x.kp, x.nf, x.gr, fun i b q => x.ow i b (wipe_ow x.st.len h1 q).2, fun i b q => x.lk i b (wipe_lk x.st.len h1 q).2⟩
/-- behind the block: the names are what they were -/
theorem Ext.restored (s : Sta K F H σ ρ) {σ1 : SS} (l1 : σ1.length = σ.length) (h1 : ∀ i, i ∉ own → σ1[i]? = σ[i]?) (x : Ext K F H σ1 (wipeR own ρ) F' H' σ1 ρ') :
    Ext K F H σ ρ F' H' σ (restore own ρ ρ') ∧ ∀ i b, HdAt σ (restore own ρ ρ') i b → (i ∈ own ∧ HdAt σ ρ i b) ∨ (i ∉ own ∧ HdAt σ1 ρ' i b) := by
  have hl : ρ'.length = ρ.length := by
    have a := x.st.len
    have b := s.len
    omega
  -- a slot of the block's own names
  have inn : ∀ i sl, i ∈ own → (restore own ρ ρ')[i]? = some sl → ρ[i]? = some sl := fun i sl hi e => by
    have hlt : i < ρ.length := by
      have := (List.getElem?_eq_some_iff.mp e).1
      rw [restore_len hl] at this; exact this
    rw [restore_in hl hlt hi] at e; exact e
  have owR : ∀ i b, OwAt σ (restore own ρ ρ') i b → (i ∈ own ∧ OwAt σ ρ i b) ∨ (i ∉ own ∧ OwAt σ1 ρ' i b) := fun i b ⟨e, d, q⟩ => by
    by_cases hi : i ∈ own
    · exact .inl ⟨hi, e, d, inn i _ hi q⟩
    · rw [restore_out hi] at q
      exact .inr ⟨hi, by rw [h1 i hi]; exact e, d, q⟩
  have lkR : ∀ i b, LkAt σ (restore own ρ ρ') i b → (i ∈ own ∧ LkAt σ ρ i b) ∨ (i ∉ own ∧ LkAt σ1 ρ' i b) := fun i b ⟨e, d, q⟩ => by
    by_cases hi : i ∈ own
    · exact .inl ⟨hi, e, d, inn i _ hi q⟩
    · rw [restore_out hi] at q
      exact .inr ⟨hi, by rw [h1 i hi]; exact e, d, q⟩
  have hdR : ∀ i b, HdAt σ (restore own ρ ρ') i b → (i ∈ own ∧ HdAt σ ρ i b) ∨ (i ∉ own ∧ HdAt σ1 ρ' i b) := fun i b q => by
    rcases q with q | q
    · exact (owR i b q).imp (fun z => ⟨z.1, .inl z.2⟩) fun z => ⟨z.1, .inl z.2⟩
    · exact (lkR i b q).imp (fun z => ⟨z.1, .inr z.2⟩) fun z => ⟨z.1, .inr z.2⟩
  -- what a hidden name holds is apart from what the block holds
  have apart : ∀ i b, i ∈ own → HdAt σ ρ i b → ∀ j, ¬ HdAt σ1 (wipeR own ρ) j b := fun i b hi q j z => by
    obtain ⟨hj, z⟩ := wipe_hd s.len h1 z
    have e := s.dj i j b q z
    subst e
    exact hj hi
  refine ⟨⟨⟨x.st.le, by rw [restore_len hl]; exact s.len, fun i sl q => ?_, fun i j b q1 q2 => ?_⟩, x.fr, fun b o e n => x.kp b o e fun i z => n i (wipe_ow s.len h1 z).2, fun b e n q => x.nf b e (fun i z => n i (wipe_hd s.len h1 z).2) q, x.gr, fun i b q => ?_, fun i b q => ?_⟩, hdR⟩
  · by_cases hi : i ∈ own
    · have q' := inn i sl hi q
      have z := s.sl i sl q'
      cases sl with
      | em => trivial
      | fz d => obtain ⟨v, e, r⟩ := z; exact ⟨v, e, r.mono x.fr⟩
      | ow d =>
        obtain ⟨a, e, nf, o⟩ := z
        obtain ⟨ob, eo⟩ := o.some
        have ap := apart i a hi (.inl ⟨e, d, q'⟩)
        exact ⟨a, e, x.nf a o.ne ap nf, o.mono x.fr ((x.kp a ob eo fun j w => ap j (.inl w)).trans eo.symm)⟩
      | lk d =>
        obtain ⟨a, e, nf, o⟩ := z
        obtain ⟨ob, eo⟩ := o.some
        have ap := apart i a hi (.inr ⟨e, d, q'⟩)
        exact ⟨a, e, x.nf a o.ne ap nf, o.mono x.fr ((x.kp a ob eo fun j w => ap j (.inl w)).trans eo.symm)⟩
    · rw [restore_out hi] at q
      rw [← h1 i hi]; exact x.st.sl i sl q
  · have cross : ∀ i j b, i ∈ own → HdAt σ ρ i b → HdAt σ1 ρ' j b → False := fun i j b hi w1 w2 => by
      rcases x.hd w2 with y | y
      · exact apart i b hi w1 j y
      · obtain ⟨_, d, o⟩ := s.held w1
        exact o.ne y
    rcases hdR i b q1 with ⟨hi, w1⟩ | ⟨hi, w1⟩
    · rcases hdR j b q2 with ⟨hj, w2⟩ | ⟨hj, w2⟩
      · exact s.dj i j b w1 w2
      · exact (cross i j b hi w1 w2).elim
    · rcases hdR j b q2 with ⟨hj, w2⟩ | ⟨hj, w2⟩
      · exact (cross j i b hj w2 w1).elim
      · exact x.st.dj i j b w1 w2
  · rcases owR i b q with ⟨_, z⟩ | ⟨_, z⟩
    · exact .inl z
    · rcases x.ow i b z with y | y
      · exact .inl (wipe_ow s.len h1 y).2
      · exact .inr y
  · rcases lkR i b q with ⟨_, z⟩ | ⟨_, z⟩
    · exact .inl (.inr z)
    · rcases x.lk i b z with y | y
      · exact .inl (wipe_hd s.len h1 y).2
      · exact .inr y
end
/-- a new object of ours that no slot holds is changed -/
theorem Ext.updFree {F₀ H₀ : Hp} {σ₀ : SS} {ρ₀ : List Sl} {p : Addr} {o : HO} (x : Ext K F₀ H₀ σ₀ ρ₀ F H σ ρ) (h0 : H₀ p = none) (hf : F p = none) (hn : ∀ i, ¬ HdAt σ ρ i p) : Ext K F₀ H₀ σ₀ ρ₀ F (upd H p o) σ ρ := by
  refine ⟨⟨fun b u e => ?_, x.st.len, fun i s q => ?_, x.st.dj⟩, x.fr, fun b u e n => ?_, x.nf, fun b e => ?_, x.ow, x.lk⟩
  · have hb : b ≠ p := fun z => by subst z; rw [hf] at e; cases e
    rw [upd_ne hb]; exact x.st.le b u e
  · have z := x.st.sl i s q
    cases s with
    | em => trivial
    | fz d => exact z
    | ow d =>
      obtain ⟨a, e, nf, ob⟩ := z
      have ha : a ≠ p := fun z => by subst z; exact hn i (.inl ⟨e, d, q⟩)
      exact ⟨a, e, nf, ob.mono (Same.refl _) (upd_ne ha)⟩
    | lk d =>
      obtain ⟨a, e, nf, ob⟩ := z
      have ha : a ≠ p := fun z => by subst z; exact hn i (.inr ⟨e, d, q⟩)
      exact ⟨a, e, nf, ob.mono (Same.refl _) (upd_ne ha)⟩
  · have hb : b ≠ p := fun z => by subst z; rw [h0] at e; cases e
    rw [upd_ne hb]; exact x.kp b u e n
  · by_cases hb : b = p
    · subst hb; rw [upd_same]; exact fun z => nomatch z
    · rw [upd_ne hb]; exact x.gr b e
def lcGo (own : List Nat) (g : DG) (tt : M Bool) (te : M Rs) : List D → List D → M (List D)
  | [], acc => pr acc
  | d :: ds, acc => fun ρ => match g d ρ with
    | none => .bad
    | some ρ1 => match tt ρ1 with
      | .bad => .bad
      | .ok false ρ2 => lcGo own g tt te ds acc (wipeR own ρ2)
      | .ok true ρ2 => match bd te frz ρ2 with
        | .bad => .bad
        | .ok x ρ3 => lcGo own g tt te ds (acc ++ [x]) (wipeR own ρ3)
/-- what a comprehension walks -/
def dLc (own : List Nat) (w : M Wk) (g : DG) (tt : M Bool) (te : M Rs) : M Rs := fun ρ => match w ρ with
  | .bad => .bad
  | .ok (ds, l) ρ1 => if ds.length ≤ sizeLine then match lcGo own g tt te ds [] (wipeR own ρ1) with
    | .bad => .bad
    | .ok acc ρ2 => .ok (.ow (.list acc)) (unl l (restore own ρ1 ρ2))
    else .bad
theorem lcGo_drop {own : List Nat} {g : DG} {tt : M Bool} {te : M Rs} {ds : List D} {i : Nat} {d : D} (h : ds[i]? = some d) (acc : List D) : lcGo own g tt te (ds.drop i) acc = lcGo own g tt te (d :: ds.drop (i + 1)) acc := by
  have hi := (List.getElem?_eq_some_iff.mp h).1
  rw [List.drop_eq_getElem_cons hi]
  have : ds[i] = d := (List.getElem?_eq_some_iff.mp h).2
  rw [this]
theorem sem_lc {own : List Nat} {w : M Wk} {g : DG} {tt : M Bool} {te : M Rs} : ∀ σ H Q, tSem K (dLc own w g tt te) σ H Q → tLc (tSemI K w) (tSemG K (fun i => i ∉ own) g) (tSemT K tt) (tSem K te) own σ H Q := fun σ H Q ⟨F, ρ, r, ρ', s, e, k⟩ => by
  unfold dLc at e
  cases ew : w ρ with
  | bad => rw [ew] at e; cases e
  | ok a ρ1 =>
    obtain ⟨ds, l⟩ := a
    rw [ew] at e
    simp only at e
    split at e
    case isFalse => cases e
    case isTrue hsz =>
    cases eg : lcGo own g tt te ds [] (wipeR own ρ1) with
    | bad => rw [eg] at e; cases e
    | ok acc ρ2 =>
      rw [eg] at e
      cases e
      refine ⟨F, ρ, ds, l, ρ1, s, ew, fun F1 H1 N J x1 hu sN hN it p hp => ?_⟩
      have lw : (wipe σ own).length = σ.length := wipe_length _ _
      have hw : ∀ i, i ∉ own → (wipe σ own)[i]? = σ[i]? := fun i h => wipe_out h
      have st0 : Sta K F1 H1 (wipe σ own) (wipeR own ρ1) := x1.st.wiped lw hw
      have n0 : ∀ i, ¬ HdAt (wipe σ own) (wipeR own ρ1) i p := fun i z => by
        obtain ⟨_, d, o⟩ := st0.held z
        exact o.ne hp
      have fp : F1 p = none := x1.st.le.free hp
      refine ⟨fun i m H' => m = ds.length - i ∧ i ≤ ds.length ∧ ∃ F' ρ' acc' vs, Ext K F1 H1 (wipe σ own) (wipeR own ρ1) F' H' (wipe σ own) ρ' ∧ (∀ j, ¬ HdAt (wipe σ own) ρ' j p) ∧ F' p = none ∧ H' p = some (.lst vs) ∧ RpA K F' vs acc' ∧ acc'.length ≤ i ∧
        lcGo own g tt te (ds.drop i) acc' ρ' = .ok acc ρ2, ⟨ds.length, by simp, Nat.zero_le _, F1, _, [], [], (Ext.refl st0).updFree hp fp n0, n0, fp, upd_same, .nil, Nat.le_refl _, by simpa using eg⟩, ?_⟩
      rintro i m H' ⟨rfl, hi, F', ρ', acc', vs, x, hn, hf, ho, ra, hla, el⟩
      have sN' : Same N H' := fun b o eb => x.kp b o (sN b o eb) fun j z => by
        have := wipe_ow x1.st.len hw z
        exact hN b (by rw [eb]; exact fun z => nomatch z) j this.2
      obtain ⟨itg, its⟩ := it i F' H' x.fr x.st.le sN'
      by_cases hlt : i < ds.length
      · have hd : ds[i]? = some ds[i] := List.getElem?_eq_getElem hlt
        obtain ⟨go, yl⟩ := itg _ hd
        rw [lcGo_drop hd] at el
        refine .inr ⟨go, fun H2 => ∃ F' ρ' acc' vs, Ext K F1 H1 (wipe σ own) (wipeR own ρ1) F' H2 (wipe σ own) ρ' ∧ (∀ j, ¬ HdAt (wipe σ own) ρ' j p) ∧ F' p = none ∧ H2 p = some (.lst vs) ∧ RpA K F' vs acc' ∧ acc'.length ≤ i + 1 ∧
          lcGo own g tt te (ds.drop (i + 1)) acc' ρ' = .ok acc ρ2, fun H2 q => ⟨ds.length - (i + 1), by omega, rfl, hlt, q⟩, fun v H2 y => ?_⟩
        obtain ⟨F2, gr, rp⟩ := yl v H2 y
        have y2 := x.st.grow gr
        have x2 := x.trans y2
        -- the list at p stands through what reads
        have hp' : H' p ≠ none := by rw [ho]; exact fun z => nomatch z
        unfold lcGo at el
        cases egd : g ds[i] ρ' with
        | none => rw [egd] at el; cases el
        | some ρ3 =>
          rw [egd] at el
          simp only at el
          refine ⟨F2, ρ', ds[i], ρ3, x2.st, rp, egd, fun σ3 x3 p3 => ?_⟩
          have l3 : σ3.length = (wipe σ own).length := p3.1
          have hw3 : ∀ i, i ∉ own → σ3[i]? = (wipe σ own)[i]? := fun i h => p3.2 i h
          refine ⟨by rw [wipe_eq l3 hw3, wipe_wipe], ?_⟩
          -- what holds of p behind any of these
          have atp : ∀ {F5 H5 : Hp} {ρ5 : List Sl}, Ext K F' H' (wipe σ own) ρ' F5 H5 σ3 ρ5 → H5 p = some (.lst vs) ∧ F5 p = none ∧ ∀ j, ¬ HdAt σ3 ρ5 j p := fun {F5 H5 ρ5} y => by
            refine ⟨y.kp p _ ho fun j z => hn j (.inl z), y.nf p hp' hn hf, fun j z => ?_⟩
            rcases y.hd z with w | w
            · exact hn j w
            · exact hp' w
          have back3 : ∀ {F5 H5 : Hp} {ρ5 : List Sl}, Sta K F5 H5 σ3 ρ5 → (∀ j, ¬ HdAt σ3 ρ5 j p) → ∀ j, ¬ HdAt (wipe σ own) (wipeR own ρ5) j p := fun {F5 H5 ρ5} st h j z => h j (wipe_hd st.len (fun i h => (hw3 i h).symm) z).2
          cases et : tt ρ3 with
          | bad => simp only [et] at el; cases el
          | ok b ρ4 =>
            simp only [et] at el
            refine ⟨F2, ρ3, b, ρ4, x3.st, et, fun F4 H4 x4 => ?_⟩
            have y4 := (y2.trans x3).trans x4
            cases b with
            | false =>
              simp only at el
              obtain ⟨a1, a2, a3⟩ := atp y4
              exact iteF ⟨F4, _, acc', vs, (x.trans y4).wiped l3.symm fun i h => (hw3 i h).symm, back3 y4.st a3, a2, a1, ra.mono y4.fr, by omega, el⟩
            | true =>
              simp only at el
              cases ee : bd te frz ρ4 with
              | bad => rw [ee] at el; cases el
              | ok z ρ5 =>
                rw [ee] at el
                simp only at el
                obtain ⟨r, ρ6, e1, e2⟩ := bd_ok ee
                refine iteT ⟨F4, ρ4, r, ρ6, x4.st, e1, fun F5 H5 u x5 q5 => ?_⟩
                obtain ⟨F6, y6, rz⟩ := frz_ok (y4.trans x5) (q5.base fun a z => y4.back z) e2
                obtain ⟨a1, a2, a3⟩ := atp y6
                refine ⟨vs, a1, ?_, F6, _, acc' ++ [z], vs ++ [u], ((x.trans y6).updFree hp a2 a3).wiped l3.symm fun i h => (hw3 i h).symm, back3 y6.st a3, a2, upd_same, (ra.mono y6.fr).app (.one rz), ?_, el⟩
                · rw [ra.length]; omega
                · rw [List.length_append, List.length_singleton]; omega
      · have ei : i = ds.length := by omega
        subst ei
        rw [List.drop_length] at el
        obtain ⟨e1, e2⟩ := pr_ok el
        subst e1; subst e2
        obtain ⟨x5, hd5⟩ := Ext.restored x1.st lw hw x
        refine .inl ⟨its rfl, k F' H' (.ref p) (x1.unlock hu x5) ⟨p, rfl, x1.back hp, hf, ⟨vs, ho, ra⟩, fun j z => ?_⟩⟩
        rcases hd5 j p (unl_hd z) with ⟨_, w⟩ | ⟨_, w⟩
        · obtain ⟨_, d, o⟩ := x1.st.held w
          exact o.ne hp
        · exact hn j w

def dYes : M Bool := pr true
theorem sem_yes : ∀ σ H Q, tSemT K dYes σ H Q → tYes σ H Q := fun σ H Q ⟨F, ρ, r, ρ', s, e, k⟩ => by
  cases e; exact k F H (Ext.refl s)
theorem ptsWeak {X : Cx} {e : List Expr} {t t' : TT} (h : PTs X e t) (w : ∀ σ H Q, t' σ H Q → t σ H Q) : PTs X e t' :=
  ⟨fun pins s σ H Q I q => h.run pins s σ H Q I (w σ H Q q)⟩
section
variable {X : Cx} {c : Expr} {tc : M Bool}
theorem tn : PTs X [] (tSemT X.K dYes) := ptsWeak pts_nil sem_yes
theorem t1 (h : PT X c (tSemT X.K tc)) : PTs X [c] (tSemT X.K tc) := pts_one h
theorem lc {elt tg iter : Expr} {ifs : List Expr} {scope : Scope} {own : List (Str × Nat)} {pos : Pos} {w : M Wk} {g : DG} {tt : M Bool} {te : M Rs} (hc : X.calm = true) (hN : X.N.Nodup) (hi : PI X tg iter (tSemI X.K w)) (ok : BlkOk X.N X.env.scope scope own)
    (hg : ∀ (s : Shared) (H : Hp) (C : Addr) (cl : List (Str × Addr)) (fp : List Addr), PG (X.blk s H scope (compEnvC scope cl C X.env) fp) tg (tSemG X.K (fun i => i ∉ own.map (·.2)) g))
    (ht : ∀ (s : Shared) (H : Hp) (C : Addr) (cl : List (Str × Addr)) (fp : List Addr), PTs (X.blk s H scope (compEnvC scope cl C X.env) fp) ifs (tSemT X.K tt))
    (he : ∀ (s : Shared) (H : Hp) (C : Addr) (cl : List (Str × Addr)) (fp : List Addr), PE (X.blk s H scope (compEnvC scope cl C X.env) fp) elt (tSem X.K te)) (hs : ∀ x, foldedSetIterable iter X.env x = pure x := by intro _; rfl) :
    PE X (.ListComp elt [⟨tg, iter, ifs, 0⟩] scope pos) (tSem X.K (dLc (own.map (·.2)) w g tt te)) := peWeak (pe_lc hc hN hi ok hg ht he hs) sem_lc
theorem slc {P : Nat → Prop} {i : Nat} {y : Str} {py : Pos} {elt tg iter : Expr} {ifs : List Expr} {scope : Scope} {own : List (Str × Nat)} {pos spos : Pos} {w : M Wk} {g : DG} {tt : M Bool} {te : M Rs} (hP : ¬ P i) (hc : X.calm = true) (hN : X.N.Nodup) (hy : X.N[i]? = some y) (hyl : X.env.scope.names.lookup y = some .local)
    (hsw : swapsWith (.ListComp elt [⟨tg, iter, ifs, 0⟩] scope pos) (some (.Name y py)) spos.line X.env = pure true) (hi : PI X tg iter (tSemI X.K w)) (ok : BlkOk X.N X.env.scope scope own)
    (hg : ∀ (s : Shared) (H : Hp) (C : Addr) (cl : List (Str × Addr)) (fp : List Addr), PG (X.blk s H scope (compEnvC scope cl C X.env) fp) tg (tSemG X.K (fun i => i ∉ own.map (·.2)) g))
    (ht : ∀ (s : Shared) (H : Hp) (C : Addr) (cl : List (Str × Addr)) (fp : List Addr), PTs (X.blk s H scope (compEnvC scope cl C X.env) fp) ifs (tSemT X.K tt))
    (he : ∀ (s : Shared) (H : Hp) (C : Addr) (cl : List (Str × Addr)) (fp : List Addr), PE (X.blk s H scope (compEnvC scope cl C X.env) fp) elt (tSem X.K te)) (hs : ∀ x, foldedSetIterable iter X.env x = pure x := by intro _; rfl) :
    PS X (.Assign [.Name y py] (.ListComp elt [⟨tg, iter, ifs, 0⟩] scope pos) spos) (tSemS X.K P (dSet i (dLc (own.map (·.2)) w g tt te))) := by
  refine psWeak (ps_setLc hc hN hy hyl hsw hi ok hg ht he hs) fun D σ H h => ?_
  exact sem_lc σ H _ (sem_set hP D σ H h)
end
end
end DL

namespace DL
open PySem PySem.Spec PyProof.Rows L2
section
variable {K : PySem.W.Frag} {F H F' H' : Hp} {σ σ' : SS} {ρ ρ' : List Sl}

/-! ### defs -/
/-- the parameters' slots at the end: those that may be lent as they stand, of the others nothing is told -/
def outP : List Bool → List Sl → List Sl
  | true :: bs, s :: ss => s :: outP bs ss
  | false :: bs, _ :: ss => .em :: outP bs ss
  | _, _ => []
/-- a def with N slots, the parameters first; ms: which of them are never stored to -/
def runDef (ms : List Bool) (n : Nat) (body : DS) : M Rs := fun args => match body (args ++ List.replicate (n - args.length) .em) with
  | .nx ρ => .ok (.fz .none) (outP ms ρ)
  | .rt (.fz d) ρ => .ok (.fz d) (outP ms ρ)
  | .rt (.ow d) ρ => .ok (.ow d) (outP ms ρ)
  | .rt (.nm i) ρ => match ρ[i]? with
    | some (.fz d) => .ok (.fz d) (outP ms ρ)
    | some (.ow d) => if ms.length ≤ i then .ok (.ow d) (outP ms ρ) else .ok (.fz d) (outP ms (ρ.set i (.fz d)))
    | some (.lk d) => .ok (.fz d) (outP ms (ρ.set i (.fz d)))
    | _ => .bad
  | _ => .bad
theorem outP_len : ∀ {ms : List Bool} {ρ : List Sl}, ms.length ≤ ρ.length → (outP ms ρ).length = ms.length
  | [], _, _ => by unfold outP; simp
  | true :: ms, [], h => by simp at h
  | false :: ms, [], h => by simp at h
  | true :: ms, s :: ρ, h => by unfold outP; rw [List.length_cons, List.length_cons, outP_len (by simpa using h)]
  | false :: ms, s :: ρ, h => by unfold outP; rw [List.length_cons, List.length_cons, outP_len (by simpa using h)]
theorem outP_get : ∀ {ms : List Bool} {ρ : List Sl} {i : Nat} {s : Sl}, (outP ms ρ)[i]? = some s → s = .em ∨ (ms[i]? = some true ∧ ρ[i]? = some s)
  | [], _, _, _, h => by unfold outP at h; simp at h
  | true :: ms, [], _, _, h => by unfold outP at h; simp at h
  | false :: ms, [], _, _, h => by unfold outP at h; simp at h
  | true :: ms, s :: ρ, 0, _, h => by unfold outP at h; simp at h; exact .inr ⟨rfl, by simpa using h⟩
  | false :: ms, s :: ρ, 0, _, h => by unfold outP at h; simp at h; exact .inl h.symm
  | true :: ms, s :: ρ, i + 1, _, h => by unfold outP at h; simp at h; exact (outP_get h).imp id fun z => ⟨by simpa using z.1, by simpa using z.2⟩
  | false :: ms, s :: ρ, i + 1, _, h => by unfold outP at h; simp at h; exact (outP_get h).imp id fun z => ⟨by simpa using z.1, by simpa using z.2⟩
theorem start_at {N : List Str} {vs : List V} (i : Nat) (hi : i < vs.length) : (start N vs)[i]? = (vs.map some)[i]? := by
  unfold L2.start
  rw [List.getElem?_append_left (by simpa using hi)]
theorem start_out {N : List Str} {vs : List V} {i : Nat} {v : V} (h : (start N vs)[i]? = some (some v)) : i < vs.length := by
  unfold L2.start at h
  rcases Nat.lt_or_ge i vs.length with z | z
  · exact z
  · rw [List.getElem?_append_right (by simpa using z), List.getElem?_replicate] at h
    split at h <;> cases h
section
variable {vs : List V} {N : List Str} {args : List Sl}
theorem start_hd (hl : vs.length = args.length) {k : Nat} {i : Nat} {b : Addr} : HdAt (start N vs) (args ++ List.replicate k .em) i b → HdAt (vs.map some) args i b := fun h => by
  have hi : i < vs.length := by rcases h with ⟨e, _⟩ | ⟨e, _⟩ <;> exact start_out e
  rcases h with ⟨e, d, q⟩ | ⟨e, d, q⟩
  · rw [start_at i hi] at e
    rw [List.getElem?_append_left (by omega)] at q
    exact .inl ⟨e, d, q⟩
  · rw [start_at i hi] at e
    rw [List.getElem?_append_left (by omega)] at q
    exact .inr ⟨e, d, q⟩
theorem start_ow (hl : vs.length = args.length) {k : Nat} {i : Nat} {b : Addr} : OwAt (start N vs) (args ++ List.replicate k .em) i b → OwAt (vs.map some) args i b := fun ⟨e, d, q⟩ => by
  have hi : i < vs.length := start_out e
  rw [start_at i hi] at e
  rw [List.getElem?_append_left (by omega)] at q
  exact ⟨e, d, q⟩
theorem start_sta (s : Sta K F H (vs.map some) args) (hn : vs.length ≤ N.length) : Sta K F H (start N vs) (args ++ List.replicate (N.length - args.length) .em) := by
  have hl : vs.length = args.length := by simpa using s.len
  refine ⟨s.le, by unfold L2.start; simp; omega, fun i sl q => ?_, fun i j b h1 h2 => s.dj i j b (start_hd hl h1) (start_hd hl h2)⟩
  rcases Nat.lt_or_ge i args.length with z | z
  · rw [List.getElem?_append_left z] at q
    rw [start_at i (by omega)]; exact s.sl i sl q
  · rw [List.getElem?_append_right z, List.getElem?_replicate] at q
    split at q
    · cases q; trivial
    · cases q
/-- behind a def's body: what the caller sees -/
theorem out_ext {ms : List Bool} (s : Sta K F H (vs.map some) args) (hn : vs.length ≤ N.length) (hm : ms.length = vs.length)
    (x : Ext K F H (start N vs) (args ++ List.replicate (N.length - args.length) .em) F' H' σ' ρ') (p : Prot (fun i => ms[i]? = some true) (start N vs) σ') :
    Ext K F H (vs.map some) args F' H' (vs.map some) (outP ms ρ') ∧ ∀ i b, HdAt (vs.map some) (outP ms ρ') i b → i < vs.length ∧ HdAt σ' ρ' i b := by
  have hl : vs.length = args.length := by simpa using s.len
  have hls : (start N vs).length = N.length := by unfold L2.start; simp; omega
  have hlr : ρ'.length = N.length := by rw [← x.st.len, p.1, hls]
  have same : ∀ i, ms[i]? = some true → σ'[i]? = (vs.map some)[i]? := fun i hi => by
    have hi' : i < vs.length := by rw [← hm]; exact (List.getElem?_eq_some_iff.mp hi).1
    rw [p.2 i hi, start_at i hi']
  have hd : ∀ i b, HdAt (vs.map some) (outP ms ρ') i b → i < vs.length ∧ HdAt σ' ρ' i b := fun i b h => by
    rcases h with ⟨e, d, q⟩ | ⟨e, d, q⟩
    · rcases outP_get q with z | ⟨z1, z2⟩
      · cases z
      · exact ⟨by rw [← hm]; exact (List.getElem?_eq_some_iff.mp z1).1, .inl ⟨by rw [same i z1]; exact e, d, z2⟩⟩
    · rcases outP_get q with z | ⟨z1, z2⟩
      · cases z
      · exact ⟨by rw [← hm]; exact (List.getElem?_eq_some_iff.mp z1).1, .inr ⟨by rw [same i z1]; exact e, d, z2⟩⟩
  refine ⟨⟨⟨x.st.le, by rw [outP_len (by omega), List.length_map, hm], fun i sl q => ?_, fun i j b h1 h2 => x.st.dj i j b (hd i b h1).2 (hd j b h2).2⟩, x.fr, fun b o e n => x.kp b o e fun i z => n i (start_ow hl z),
    fun b e n q => x.nf b e (fun i z => n i (start_hd hl z)) q, x.gr, fun i b q => ?_, fun i b q => ?_⟩, hd⟩
  · rcases outP_get q with z | ⟨z1, z2⟩
    · rw [z]; trivial
    · rw [← same i z1]; exact x.st.sl i sl z2
  · obtain ⟨e, d, q⟩ := q
    rcases outP_get q with z | ⟨z1, z2⟩
    · cases z
    · exact (x.ow i b ⟨by rw [same i z1]; exact e, d, z2⟩).imp (start_ow hl) id
  · obtain ⟨e, d, q⟩ := q
    rcases outP_get q with z | ⟨z1, z2⟩
    · cases z
    · exact (x.lk i b ⟨by rw [same i z1]; exact e, d, z2⟩).imp (start_hd hl) id
end
/-- a def's body keeps the def's promise -/
theorem sem_def {ms : List Bool} {N : List Str} {body : DS} {vs : List V} {Q : VK} (hn : vs.length ≤ N.length) (hm : ms.length = vs.length) (h : tSem K (runDef ms N.length body) (vs.map some) H Q) :
    tSemS K (fun i => ms[i]? = some true) body { nx := fun _ H' => Q .non H', rt := Q } (start N vs) H := by
  obtain ⟨F, args, r, ρ', s, e, k⟩ := h
  have hl : vs.length = args.length := by simpa using s.len
  have s0 := start_sta (N := N) s hn
  refine ⟨F, _, s0, ?_⟩
  unfold runDef at e
  cases eb : body (args ++ List.replicate (N.length - args.length) .em) with
  | nx ρ1 =>
    rw [eb] at e; cases e
    exact fun F' H' σ' x p => k F' H' .non (out_ext s hn hm x p).1 .non
  | bk ρ1 => rw [eb] at e; cases e
  | ct ρ1 => rw [eb] at e; cases e
  | bad => rw [eb] at e; cases e
  | rt r1 ρ1 =>
    rw [eb] at e
    intro F' H' σ' v x p q
    obtain ⟨x1, hd1⟩ := out_ext s hn hm x p
    cases r1 with
    | fz d => cases e; exact k F' H' v x1 q
    | ow d =>
      cases e
      obtain ⟨a, q1, q2, q3, q4, q5⟩ := q
      exact k F' H' v x1 ⟨a, q1, q2, q3, q4, fun i z => q5 i (hd1 i a z).2⟩
    | nm i =>
      have q : σ'[i]? = some (some v) := q
      simp only at e
      cases q1 : ρ1[i]? with
      | none => rw [q1] at e; cases e
      | some sl =>
        rw [q1] at e
        have z := x.st.sl i sl q1
        rw [q] at z
        cases sl with
        | em => cases e
        | fz d =>
          cases e
          obtain ⟨w, w1, w2⟩ := z
          cases w1
          exact k F' H' v x1 w2
        | ow d =>
          obtain ⟨a, w1, w2, w3⟩ := z
          cases w1
          simp only at e
          split at e
          · rename_i hi
            cases e
            refine k F' H' _ x1 ⟨a, rfl, ?_, w2, w3, fun j z => ?_⟩
            · rcases x.ow i a ⟨q, d, q1⟩ with y | y
              · have := start_out y.1
                omega
              · exact y
            · obtain ⟨z1, z2⟩ := hd1 j a z
              have := x.st.dj i j a (.inl ⟨q, d, q1⟩) z2
              omega
          · cases e
            obtain ⟨F2, x2, rp⟩ := x.freeze q q1 (.inl rfl)
            exact k F2 H' _ (out_ext s hn hm x2 p).1 rp
        | lk d =>
          obtain ⟨a, w1, w2, w3⟩ := z
          cases w1
          cases e
          obtain ⟨F2, x2, rp⟩ := x.freeze q q1 (.inr rfl)
          exact k F2 H' _ (out_ext s hn hm x2 p).1 rp
end
section
variable {P : Program} {w : World} {K : PySem.W.Frag} {mg : Str → Option Value} {base : Heap}
/-- THE RULE for a def -/
theorem fun_ok {x qual : Str} {st : Stmt} {f : Addr} {fd : FuncData} {N ps : List Str} {k : Nat} {ms : List Bool} {body : DS} (F : Fun K x qual st f fd) (S : FnScope N ps (defScope st)) (hm : ms.length = ps.length)
    (hbody : ∀ (cdv : Value) (A : Around) (outer : List Env) (s : Shared) (H : Hp) (E : XK), Room k (A.deeper (envOfC qual (defScope st) s.heap.objs.size f cdv)) →
      PSs (cxOf CX0 P w K mg base N qual (defScope st) f cdv A outer s H E).nox (defBody st) (tSemS K (fun i => ms[i]? = some true) body)) :
    FnOk P w K mg base CX0 (k + 1) f fd ps (spD K ps.length (runDef ms N.length body)) := by
  have hpn : ps.length ≤ N.length := by
    have := congrArg List.length S.pre
    rw [List.length_take] at this
    omega
  refine F.ok S (fun vs H Q E h => h.1) fun cdv A outer s H vs Q E hr h => ?_
  exact ⟨_, hbody cdv A outer s H E hr, sem_def (by rw [h.1]; exact hpn) (by rw [hm, h.1]) h.2⟩
/-- f(..) -/
theorem ecall {X : Cx} {k : Nat} {f : Addr} {fd : FuncData} {ps : List Str} {sem : M Rs} {n : Nat} {x : Str} {p pos : Pos} {e : Expr} {es : List Expr} {fa : M (List Rs)} {ls : List Bool} (G : FnOk X.prog X.w X.K X.mg X.base CX0 k f fd ps (spD X.K n sem)) (hr : Room k X.A) (hg : Gl X x) (hm : X.mg x = some (.ref f)) (hk : PySem.W.keepIn X.K (.ref f) = true)
    (hb : Binds X.K fd ps []) (hn : ls.length = n) (ha : PA X (e :: es) (tSemA X.K fa)) (hdb : (x == ("__debug__" : Str)) = false := by decide) (he : starEach (e :: es) X.env = (false, eval e X.env) :: starEach es X.env := by rfl) (hpl : (backTo pos (starEach es X.env)).any (·.1) = false := by rfl) :
    PE X (.Call (.Name x p) (e :: es) [] pos) (tSem X.K (dCall ls sem fa)) := peWeak (pe_call G hr hg hm hk hb .nil pass0 ha hdb he hpl) (sem_call hn)
end
end DL

namespace DL
open PySem PySem.Spec PyProof.Rows L2

/-! ### operations of values, by functions of data -/
def rG (K : PySem.W.Frag) (g : G2) : R2 := fun x y H Q => ∃ F dx dy res, Same F H ∧ Vw K F H x dx ∧ Vw K F H y dy ∧ g dx dy = some res ∧ NewR K F H res Q
def rG1 (K : PySem.W.Frag) (g : D → Option Rs) : V → Hp → VK → Prop := fun x H Q => ∃ F dx res, Same F H ∧ Vw K F H x dx ∧ g dx = some res ∧ NewR K F H res Q
def rGN (K : PySem.W.Frag) (g : List D → Option Rs) : List V → Hp → VK → Prop := fun x H Q => ∃ F dx res, Same F H ∧ VwA K F H x dx ∧ g dx = some res ∧ NewR K F H res Q
def rGM (K : PySem.W.Frag) (g : D → List D → Option Rs) : V → List V → Hp → VK → Prop := fun x xs H Q => ∃ F dx ds res, Same F H ∧ Vw K F H x dx ∧ VwA K F H xs ds ∧ g dx ds = some res ∧ NewR K F H res Q
theorem op2G {K : PySem.W.Frag} {g : G2} : Op2 K (rG K g) g := fun F _ _ _ dx dy res _ s h1 h2 e q => ⟨F, dx, dy, res, s, h1, h2, e, q⟩
theorem op1G {K : PySem.W.Frag} {g : D → Option Rs} : Op1 K (rG1 K g) g := fun F _ _ dx res _ s h1 e q => ⟨F, dx, res, s, h1, e, q⟩
theorem opNG {K : PySem.W.Frag} {g : List D → Option Rs} : OpN K (rGN K g) g := fun F _ _ dx res _ s h1 e q => ⟨F, dx, res, s, h1, e, q⟩
section
variable {X : Cx} {a b c : Expr} {fa fb fc : M Rs} {pos : Pos}
theorem e2 {op : Operator} {g : G2} (ho : OpR X (binaryOp op) (rG X.K g)) (ha : PE X a (tSem X.K fa)) (hb : PE X b (tSem X.K fb)) : PE X (.BinOp a op b pos) (tSem X.K (dOp2 g fa fb)) := peWeak (pe_op ho ha hb) (sem_op2 op2G)
theorem e1 {op : UnaryOp} {g : D → Option Rs} (ho : UnR X (unaryOp op) (rG1 X.K g)) (ha : PE X a (tSem X.K fa)) : PE X (.UnaryOp op a pos) (tSem X.K (dOp1 g fa)) := peWeak (pe_un ho ha) (sem_op1 op1G)
abbrev gB (g : D → D → Option Bool) : G2 := fun a b => (g a b).map fun k => .fz (.bool k)
/-- a comparison as a value, as a test -/
theorem ecmp {op : CmpOp} {g : D → D → Option Bool} (ho : OpR X (compareOp op) (rG X.K (gB g))) (ha : PE X a (tSem X.K fa)) (hb : PE X b (tSem X.K fb)) (hm : behindInMarks op b = false := by first | exact nomark _ | rfl) : PE X (.Compare a [op] [b] pos) (tSem X.K (dOp2 (gB g) fa fb)) := peWeak (pe_cmpR ho ha hb hm) (sem_op2 op2G)
theorem tcmp {op : CmpOp} {g : D → D → Option Bool} (ho : OpR X (compareOp op) (rG X.K (gB g))) (ha : PE X a (tSem X.K fa)) (hb : PE X b (tSem X.K fb)) (hm : behindInMarks op b = false := by first | exact nomark _ | rfl) : PT X (.Compare a [op] [b] pos) (tSemT X.K (dOp2T g fa fb)) := ptWeak (pt_cmpR ho ha hb hm) (sem_op2T op2G)
/-- f(..), f a built-in -/
theorem eB {x : Str} {p : Pos} {e : Expr} {es : List Expr} {id : String} {f : M (List Rs)} {g : List D → Option Rs} (hc : CallR X (.builtin id) (rGN X.K g)) (hg : Gl X x) (hm : X.mg x = none) (hv : bootBuiltins x = some (.builtin id)) (ha : PA X (e :: es) (tSemA X.K f)) (hn : x ≠ "__name__" := by decide) (hdb : (x == ("__debug__" : Str)) = false := by decide)
    (he : starEach (e :: es) X.env = (false, eval e X.env) :: starEach es X.env := by rfl) (hpl : (backTo pos (starEach es X.env)).any (·.1) = false := by rfl) : PE X (.Call (.Name x p) (e :: es) [] pos) (tSem X.K (dB g f)) := peWeak (pe_callB hc hg hm hv ha hn hdb he hpl) (sem_B opNG)
theorem eTy {x : Str} {p : Pos} {e : Expr} {es : List Expr} {id : String} {f : M (List Rs)} {g : List D → Option Rs} (hc : CallR X (.type id) (rGN X.K g)) (hg : Gl X x) (hm : X.mg x = none) (hv : bootBuiltins x = some (.type id)) (ha : PA X (e :: es) (tSemA X.K f)) (hn : x ≠ "__name__" := by decide) (hdb : (x == ("__debug__" : Str)) = false := by decide)
    (he : starEach (e :: es) X.env = (false, eval e X.env) :: starEach es X.env := by rfl) (hpl : (backTo pos (starEach es X.env)).any (·.1) = false := by rfl) : PE X (.Call (.Name x p) (e :: es) [] pos) (tSem X.K (dB g f)) := peWeak (pe_callTy hc hg hm hv ha hn hdb he hpl) (sem_B opNG)
end

/-! ### numbers -/
def mulOk (i j : Int) : Bool := decide (-(2 ^ 64) < i ∧ i < 2 ^ 64) || decide (-(2 ^ 64) < j ∧ j < 2 ^ 64)
def gAdd : G2
  | .int i, .int j => some (.fz (.int (i + j)))
  | .str i, .str j => if i.length + j.length ≤ sizeLine then some (.fz (.str (i ++ j))) else none
  | .list i, .list j => if i.length + j.length ≤ sizeLine then some (.ow (.list (i ++ j))) else none
  | .tuple i, .tuple j => if i.length + j.length ≤ sizeLine then some (.fz (.tuple (i ++ j))) else none
  | _, _ => none
def gSub : G2
  | .int i, .int j => some (.fz (.int (i - j)))
  | _, _ => none
def gMul : G2
  | .int i, .int j => if mulOk i j then some (.fz (.int (i * j))) else none
  | _, _ => none
def gDiv : G2
  | .int i, .int j => if 0 < j ∧ j < 1073741824 then some (.fz (.int (i / j))) else if j ≠ 0 ∧ j.natAbs < 1073741824 then some (.fz (.int (i.fdiv j))) else none
  | _, _ => none
def gMod : G2
  | .int i, .int j => if 0 < j then some (.fz (.int (i % j))) else if j ≠ 0 then some (.fz (.int (i.fmod j))) else none
  | _, _ => none
def gPow : G2
  | .int i, .int j => if 0 ≤ j ∧ j ≤ 1000000 ∧ i.natAbs < 2 ^ 64 then some (.fz (.int (i ^ j.toNat))) else none
  | _, _ => none
def gNeg : D → Option Rs
  | .int i => some (.fz (.int (-i)))
  | _ => none
section
variable {X : Cx}
theorem cat_rd : OpR X (binaryOp .Add) (fun x y H Q => ∃ l b xs zs, x = .ref l ∧ y = .ref b ∧ Rd H l (.lst xs) ∧ Rd H b (.lst zs) ∧ xs.length + zs.length ≤ sizeLine ∧ ∀ p, H p = none → Q (.ref p) (upd H p (.lst (xs ++ zs)))) := by
  intro pins s σ H x y v u Q I rx ry h
  obtain ⟨l, b, xs, zs, rfl, rfl, hH, hB, hz, q⟩ := h
  cases rx
  cases ry
  obtain ⟨z, its, n, r, e⟩ := hH.ok I.hok
  obtain ⟨z2, its2, n2, r2, e2⟩ := hB.ok I.hok
  have hl := r.length
  have hl2 := r2.length
  refine PySem.P.add_list e e2 ?_ (by rw [List.size_toArray, List.size_toArray]; omega)
  have ea : its.toArray ++ its2.toArray = (its ++ its2).toArray := by simp
  rw [ea]
  exact ⟨.ref _, _, I.lnew (t' := s.toks) (r.append r2) (by rw [List.length_append]; omega), rfl, q _ I.fresh⟩
theorem oAdd : OpR X (binaryOp .Add) (rG X.K gAdd) := by
  intro pins s σ H x y v u Q I rx ry ⟨F, dx, dy, res, sm, hx, hy, e, q⟩
  unfold gAdd at e
  split at e
  · cases e
    exact op_add pins s σ H x y v u Q I rx ry ⟨_, _, hx.int, hy.int, q.same sm (.int _)⟩
  · split at e
    case isFalse => cases e
    case isTrue hl => cases e; exact op_add_str pins s σ H x y v u Q I rx ry ⟨_, _, hx.str, hy.str, hl, q.same sm (.str _)⟩
  · split at e
    case isFalse => cases e
    case isTrue hl =>
      cases e
      obtain ⟨a, vs, e1, h1, r1⟩ := hx.list sm
      obtain ⟨b, ws, e2, h2, r2⟩ := hy.list sm
      exact cat_rd pins s σ H x y v u Q I rx ry ⟨a, b, vs, ws, e1, e2, h1, h2, by rw [r1.length, r2.length]; exact hl, fun p hp => q.lst sm (r1.app r2) hp⟩
  · split at e
    case isFalse => cases e
    case isTrue hl =>
      cases e
      obtain ⟨a, vs, e1, h1, r1⟩ := hx.tuple sm
      obtain ⟨b, ws, e2, h2, r2⟩ := hy.tuple sm
      have p1 := hx.rp (by intro _ z; cases z) (by intro _ z; cases z)
      have p2 := hy.rp (by intro _ z; cases z) (by intro _ z; cases z)
      refine op_catA pins s σ H x y v u Q I rx ry ⟨a, b, vs, ws, e1, e2, h1, h2, by rw [r1.length, r2.length]; exact hl, fun z => ?_, fun _ z => ?_, fun _ _ p hp => q.tup sm (r1.app r2) hp⟩
      · subst z; cases r1
        exact q.same sm (e2 ▸ p2)
      · subst z; cases r2
        rw [List.append_nil] at q
        exact q.same sm (e1 ▸ p1)
  · cases e
theorem oSub : OpR X (binaryOp .Sub) (rG X.K gSub) := by
  intro pins s σ H x y v u Q I rx ry ⟨F, dx, dy, res, sm, hx, hy, e, q⟩
  unfold gSub at e
  split at e
  · cases e
    exact op_sub pins s σ H x y v u Q I rx ry ⟨_, _, hx.int, hy.int, q.same sm (.int _)⟩
  · cases e
theorem rpA_flat {K : PySem.W.Frag} {F : Hp} {vs : List V} {ds : List D} (h : RpA K F vs ds) : ∀ n : Nat, RpA K F (List.replicate n vs).flatten (List.replicate n ds).flatten
  | 0 => .nil
  | n + 1 => by rw [List.replicate_succ, List.replicate_succ, List.flatten_cons, List.flatten_cons]; exact h.app (rpA_flat h n)
theorem oMul : OpR X (binaryOp .Mult) (rG X.K gMul) := by
  intro pins s σ H x y v u Q I rx ry ⟨F, dx, dy, res, sm, hx, hy, e, q⟩
  unfold gMul at e
  split at e
  · split at e
    case isFalse => cases e
    case isTrue h =>
      cases e
      unfold mulOk at h
      rw [Bool.or_eq_true] at h
      exact op_mul pins s σ H x y v u Q I rx ry ⟨_, _, hx.int, hy.int, h.imp of_decide_eq_true of_decide_eq_true, q.same sm (.int _)⟩
  · cases e
theorem oDiv : OpR X (binaryOp .FloorDiv) (rG X.K gDiv) := by
  intro pins s σ H x y v u Q I rx ry ⟨F, dx, dy, res, sm, hx, hy, e, q⟩
  unfold gDiv at e
  split at e
  · split at e
    case isTrue h => cases e; exact op_fdiv pins s σ H x y v u Q I rx ry ⟨_, _, hx.int, hy.int, h, q.same sm (.int _)⟩
    case isFalse =>
      split at e
      case isTrue h => cases e; exact op_fdivN pins s σ H x y v u Q I rx ry ⟨_, _, hx.int, hy.int, h, q.same sm (.int _)⟩
      case isFalse => cases e
  · cases e
theorem oMod : OpR X (binaryOp .Mod) (rG X.K gMod) := by
  intro pins s σ H x y v u Q I rx ry ⟨F, dx, dy, res, sm, hx, hy, e, q⟩
  unfold gMod at e
  split at e
  · split at e
    case isTrue h => cases e; exact op_mod pins s σ H x y v u Q I rx ry ⟨_, _, hx.int, hy.int, h, q.same sm (.int _)⟩
    case isFalse =>
      split at e
      case isTrue h => cases e; exact op_modN pins s σ H x y v u Q I rx ry ⟨_, _, hx.int, hy.int, h, q.same sm (.int _)⟩
      case isFalse => cases e
  · cases e
theorem oPow : OpR X (binaryOp .Pow) (rG X.K gPow) := by
  intro pins s σ H x y v u Q I rx ry ⟨F, dx, dy, res, sm, hx, hy, e, q⟩
  unfold gPow at e
  split at e
  · split at e
    case isTrue h => cases e; exact op_pow pins s σ H x y v u Q I rx ry ⟨_, _, hx.int, hy.int, h, q.same sm (.int _)⟩
    case isFalse => cases e
  · cases e
theorem oNeg : UnR X (unaryOp .USub) (rG1 X.K gNeg) := by
  intro pins s σ H x v Q I rx ⟨F, dx, res, sm, hx, e, q⟩
  unfold gNeg at e
  split at e
  · cases e
    exact un_neg pins s σ H x v Q I rx ⟨_, hx.int, q.same sm (.int _)⟩
  · cases e
end

/-! ### data without dicts read off the heap -/
mutual
def noD : D → Bool
  | .dict _ => false
  | .list ds => noDA ds
  | .tuple ds => noDA ds
  | _ => true
def noDA : List D → Bool
  | [] => true
  | d :: ds => noD d && noDA ds
end
mutual
theorem Rp.dp {K : PySem.W.Frag} {F H : Hp} (s : Same F H) : ∀ {v : V} {d : D}, Rp K F v d → noD d = true → Dp K H v d
  | _, _, .non, _ => .non
  | _, _, .bl b, _ => .bl b
  | _, _, .int i, _ => .int i
  | _, _, .str x, _ => .str x
  | _, _, .lst h t, n => .lst (.inl (rd_mono s h)) (RpA.dp s t (by simpa [noD] using n))
  | _, _, .tup h t, n => .tup (sqT_mono s h) (RpA.dp s t (by simpa [noD] using n))
  | _, _, .dct h t, n => by simp [noD] at n
theorem RpA.dp {K : PySem.W.Frag} {F H : Hp} (s : Same F H) : ∀ {v : List V} {d : List D}, RpA K F v d → noDA d = true → DpAll K H v d
  | _, _, .nil, _ => .nil
  | _, _, .cons h t, n => by
    rw [noDA, Bool.and_eq_true] at n
    exact .cons (Rp.dp s h n.1) (RpA.dp s t n.2)
end
mutual
theorem noD_lay : ∀ d : D, d.canLay0 = true → noD d = true
  | .none, _ => by simp [noD]
  | .bool _, _ => by simp [noD]
  | .int _, _ => by simp [noD]
  | .str _, _ => by simp [noD]
  | .list ds, h => by simp only [noD]; exact noDA_lay ds (by simpa [PyData.canLay0] using h)
  | .tuple ds, h => by simp only [noD]; exact noDA_lay ds (by simpa [PyData.canLay0] using h)
  | .dict _, h => by simp [PyData.canLay0] at h
theorem noDA_lay : ∀ ds : List D, PyData.canLayAll0 ds = true → noDA ds = true
  | [], _ => by simp [noDA]
  | d :: ds, h => by
    rw [PyData.canLayAll0, Bool.and_eq_true] at h
    rw [noDA, noD_lay d h.1, noDA_lay ds h.2]; rfl
end
theorem noD_shaped {d : D} (h : SeqAt.shaped d = true) : noD d = true := noD_lay d (SeqAt.canLay_of_shaped h)
theorem Vw.dp {K : PySem.W.Frag} {F H : Hp} {v : V} {d : D} (s : Same F H) (h : Vw K F H v d) (n : noD d = true) : Dp K H v d := by
  rcases h with h | ⟨a, rfl, o⟩
  · exact h.dp s n
  · cases d with
    | list ds => obtain ⟨vs, e, r⟩ := o; exact .lst (.inl (.inl e)) (r.dp s (by simpa [noD] using n))
    | dict ds => simp [noD] at n
    | _ => exact o.elim

/-! ### comparisons -/
def gEq : D → D → Option Bool
  | .int i, .int j => some (i == j)
  | .str i, .str j => some (i == j)
  | .bool i, .bool j => some (i == j)
  | x, y => if SeqAt.shaped x && SeqAt.shaped y then some (PyData.eqv x y) else none
def gNe (x y : D) : Option Bool := (gEq x y).map fun b => !b
def isNone : D → Bool
  | .none => true
  | _ => false
def cmpOk (x y : D) : Bool := PySem.W.alike x y && !isNone x && noD x && noD y && decide (x.depth ≤ 64)
def gLt : D → D → Option Bool
  | .int i, .int j => some (decide (i < j))
  | x, y => if cmpOk x y then some (PySem.W.dataLt x y) else none
def gLe : D → D → Option Bool
  | .int i, .int j => some (decide (i ≤ j))
  | x, y => if cmpOk x y then some (!PySem.W.dataLt y x) else none
def gGt : D → D → Option Bool
  | .int i, .int j => some (decide (j < i))
  | x, y => if cmpOk x y then some (PySem.W.dataLt y x) else none
def gGe : D → D → Option Bool
  | .int i, .int j => some (decide (j ≤ i))
  | x, y => if cmpOk x y then some (!PySem.W.dataLt x y) else none
theorem map_b {o : Option Bool} {res : Rs} (e : o.map (fun k => Rs.fz (.bool k)) = some res) : ∃ k, o = some k ∧ res = .fz (.bool k) := by
  cases o with
  | none => cases e
  | some k => cases e; exact ⟨k, rfl, rfl⟩
section
variable {X : Cx}
theorem oEq (hu : X.A.units + 64 < cLine) : OpR X (compareOp .Eq) (rG X.K (gB gEq)) := by
  intro pins s σ H x y v u Q I rx ry ⟨F, dx, dy, res, sm, hx, hy, e, q⟩
  obtain ⟨k, e0, rfl⟩ := map_b e
  clear e
  have e := e0
  clear e0
  unfold gEq at e
  split at e
  · cases e
    refine op_eq pins s σ H x y v u Q I rx ry ⟨by rw [hx.int, hy.int]; rfl, ?_⟩
    rw [hx.int, hy.int, dec_int]; exact q.same sm (.bl _)
  · cases e
    refine op_eq pins s σ H x y v u Q I rx ry ⟨by rw [hx.str, hy.str]; rfl, ?_⟩
    rw [hx.str, hy.str, dec_str]; exact q.same sm (.bl _)
  · cases e
    refine op_eq pins s σ H x y v u Q I rx ry ⟨by rw [hx.bool, hy.bool]; rfl, ?_⟩
    rw [hx.bool, hy.bool, dec_bl]; exact q.same sm (.bl _)
  · split at e
    case isFalse => cases e
    case isTrue h =>
      cases e
      rw [Bool.and_eq_true] at h
      exact op_eqD hu pins s σ H x y v u Q I rx ry ⟨_, _, hx.dp sm (noD_shaped h.1), hy.dp sm (noD_shaped h.2), h.1, h.2, q.same sm (.bl _)⟩
theorem oNe (hu : X.A.units + 64 < cLine) : OpR X (compareOp .NotEq) (rG X.K (gB gNe)) := by
  intro pins s σ H x y v u Q I rx ry ⟨F, dx, dy, res, sm, hx, hy, e, q⟩
  obtain ⟨k, e0, rfl⟩ := map_b e
  clear e
  have e := e0
  clear e0
  unfold gNe at e
  obtain ⟨k', e0, rfl⟩ : ∃ k', gEq dx dy = some k' ∧ k = !k' := by
    cases h : gEq dx dy with
    | none => rw [h] at e; cases e
    | some k' => rw [h] at e; cases e; exact ⟨k', rfl, rfl⟩
  clear e
  have e := e0
  clear e0
  unfold gEq at e
  split at e
  · cases e
    refine op_ne pins s σ H x y v u Q I rx ry ⟨by rw [hx.int, hy.int]; rfl, ?_⟩
    rw [hx.int, hy.int, dec_int]; exact q.same sm (.bl _)
  · cases e
    refine op_ne pins s σ H x y v u Q I rx ry ⟨by rw [hx.str, hy.str]; rfl, ?_⟩
    rw [hx.str, hy.str, dec_str]; exact q.same sm (.bl _)
  · cases e
    refine op_ne pins s σ H x y v u Q I rx ry ⟨by rw [hx.bool, hy.bool]; rfl, ?_⟩
    rw [hx.bool, hy.bool, dec_bl]; exact q.same sm (.bl _)
  · split at e
    case isFalse => cases e
    case isTrue h =>
      cases e
      rw [Bool.and_eq_true] at h
      exact op_neD hu pins s σ H x y v u Q I rx ry ⟨_, _, hx.dp sm (noD_shaped h.1), hy.dp sm (noD_shaped h.2), h.1, h.2, q.same sm (.bl _)⟩
theorem cmp_room {x y : D} (h : cmpOk x y = true) (hu : X.A.units + 64 < cLine) : PySem.W.alike x y = true ∧ x ≠ .none ∧ noD x = true ∧ noD y = true ∧ X.A.units + min x.depth y.depth < cLine := by
  unfold cmpOk at h
  simp only [Bool.and_eq_true, decide_eq_true_eq] at h
  obtain ⟨⟨⟨⟨h1, h2⟩, h3⟩, h4⟩, h5⟩ := h
  refine ⟨h1, fun z => ?_, h3, h4, ?_⟩
  · subst z; simp [isNone] at h2
  · have := Nat.min_le_left x.depth y.depth
    omega
theorem oLt (hu : X.A.units + 64 < cLine) : OpR X (compareOp .Lt) (rG X.K (gB gLt)) := by
  intro pins s σ H x y v u Q I rx ry ⟨F, dx, dy, res, sm, hx, hy, e, q⟩
  obtain ⟨k, e0, rfl⟩ := map_b e
  clear e
  have e := e0
  clear e0
  unfold gLt at e
  split at e
  · cases e
    exact op_lt pins s σ H x y v u Q I rx ry ⟨_, _, hx.int, hy.int, q.same sm (.bl _)⟩
  · split at e
    case isFalse => cases e
    case isTrue h =>
      cases e
      obtain ⟨h1, h2, h3, h4, h5⟩ := cmp_room h hu
      obtain ⟨as, r1⟩ := Dp.reads I _ x v (hx.dp sm h3) rx
      obtain ⟨bs, r2⟩ := Dp.reads I _ y u (hy.dp sm h4) ry
      exact PySem.W.lt_data r1 r2 h1 h2 h5 ⟨.bl _, H, I, rfl, q.same sm (.bl _)⟩
theorem oGt (hu : X.A.units + 64 < cLine) : OpR X (compareOp .Gt) (rG X.K (gB gGt)) := by
  intro pins s σ H x y v u Q I rx ry ⟨F, dx, dy, res, sm, hx, hy, e, q⟩
  obtain ⟨k, e0, rfl⟩ := map_b e
  clear e
  have e := e0
  clear e0
  unfold gGt at e
  split at e
  · cases e
    exact op_gt pins s σ H x y v u Q I rx ry ⟨_, _, hx.int, hy.int, q.same sm (.bl _)⟩
  · split at e
    case isFalse => cases e
    case isTrue h =>
      cases e
      obtain ⟨h1, h2, h3, h4, h5⟩ := cmp_room h hu
      obtain ⟨as, r1⟩ := Dp.reads I _ x v (hx.dp sm h3) rx
      obtain ⟨bs, r2⟩ := Dp.reads I _ y u (hy.dp sm h4) ry
      exact PySem.W.gt_data r1 r2 h1 h2 h5 ⟨.bl _, H, I, rfl, q.same sm (.bl _)⟩
theorem oLe (hu : X.A.units + 64 < cLine) : OpR X (compareOp .LtE) (rG X.K (gB gLe)) := by
  intro pins s σ H x y v u Q I rx ry ⟨F, dx, dy, res, sm, hx, hy, e, q⟩
  obtain ⟨k, e0, rfl⟩ := map_b e
  clear e
  have e := e0
  clear e0
  unfold gLe at e
  split at e
  · cases e
    exact op_le pins s σ H x y v u Q I rx ry ⟨_, _, hx.int, hy.int, q.same sm (.bl _)⟩
  · split at e
    case isFalse => cases e
    case isTrue h =>
      cases e
      obtain ⟨h1, h2, h3, h4, h5⟩ := cmp_room h hu
      obtain ⟨as, r1⟩ := Dp.reads I _ x v (hx.dp sm h3) rx
      obtain ⟨bs, r2⟩ := Dp.reads I _ y u (hy.dp sm h4) ry
      exact PySem.W.le_data r1 r2 h1 h2 h5 ⟨.bl _, H, I, rfl, q.same sm (.bl _)⟩
theorem oGe (hu : X.A.units + 64 < cLine) : OpR X (compareOp .GtE) (rG X.K (gB gGe)) := by
  intro pins s σ H x y v u Q I rx ry ⟨F, dx, dy, res, sm, hx, hy, e, q⟩
  obtain ⟨k, e0, rfl⟩ := map_b e
  clear e
  have e := e0
  clear e0
  unfold gGe at e
  split at e
  · cases e
    exact op_ge pins s σ H x y v u Q I rx ry ⟨_, _, hx.int, hy.int, q.same sm (.bl _)⟩
  · split at e
    case isFalse => cases e
    case isTrue h =>
      cases e
      obtain ⟨h1, h2, h3, h4, h5⟩ := cmp_room h hu
      obtain ⟨as, r1⟩ := Dp.reads I _ x v (hx.dp sm h3) rx
      obtain ⟨bs, r2⟩ := Dp.reads I _ y u (hy.dp sm h4) ry
      exact PySem.W.ge_data r1 r2 h1 h2 h5 ⟨.bl _, H, I, rfl, q.same sm (.bl _)⟩
end
end DL

namespace DL
open PySem PySem.Spec PyProof.Rows L2
section
variable {K : PySem.W.Frag} {F H F' H' : Hp} {σ σ' : SS} {ρ ρ' : List Sl}

/-! ### items -/
theorem rpA_atI {vs : List V} {ds : List D} {i : Int} {d : D} (h : RpA K F vs ds) (e : atI ds i = some d) : ∃ v, atI vs i = some v ∧ Rp K F v d := by
  unfold atI at e ⊢
  rw [h.length]
  cases q : ixN ds.length i with
  | none => rw [q] at e; cases e
  | some j =>
    rw [q] at e
    have e : ds[j]? = some d := e
    have hj : j < vs.length := by rw [h.length]; exact (List.getElem?_eq_some_iff.mp e).1
    exact ⟨vs[j], List.getElem?_eq_getElem hj, h.get (List.getElem?_eq_getElem hj) e⟩
def keyEq (k : Key) : D → Bool
  | .int j => match k with
    | .inl i => i == j
    | _ => false
  | .str y => match k with
    | .inr x => x == y
    | _ => false
  | _ => false
def dget (k : Key) : List (D × D) → Option D
  | [] => none
  | p :: r => if keyEq k p.1 then some p.2 else dget k r
def dput (k : Key) (d : D) (kvs : List (D × D)) : List (D × D) :=
  if (kvs.any fun p => keyEq k p.1) = true then kvs.map (fun p => if keyEq k p.1 then (p.1, d) else p) else kvs ++ [(kD k, d)]
def keyOf : D → Option Key
  | .int i => some (.inl i)
  | .str x => some (.inr x)
  | _ => none
theorem keyEq_kD (k j : Key) : keyEq k (kD j) = decide (j = k) := by
  cases k with
  | inl i =>
    cases j with
    | inl m =>
      show (i == m) = _
      by_cases h : i = m
      · subst h; simp
      · rw [decide_eq_false (fun z => h (Sum.inl.inj z).symm)]; simpa using h
    | inr y => rfl
  | inr x =>
    cases j with
    | inl m => rfl
    | inr y =>
      show (x == y) = _
      by_cases h : x = y
      · subst h; simp
      · rw [decide_eq_false (fun z => h (Sum.inr.inj z).symm)]; simpa using h
theorem keyOf_some {d : D} {k : Key} (h : keyOf d = some k) : d = kD k := by
  cases d with
  | int i => cases h; rfl
  | str x => cases h; rfl
  | _ => cases h
theorem Vw.key {v : V} {d : D} {k : Key} (h : Vw K F H v d) (e : keyOf d = some k) : v = kV k := by
  have := keyOf_some e
  subst this
  cases k with
  | inl i => exact h.int
  | inr x => exact h.str
theorem rpK_get {k : Key} : ∀ {kvs : List (Key × V)} {ds : List (D × D)}, RpK K F kvs ds → (∀ d, dget k ds = some d → ∃ v, valV kvs k = some v ∧ Rp K F v d) ∧ (dget k ds = none → valV kvs k = none)
  | _, _, .nil => ⟨fun d (e : none = some d) => (nomatch e), fun _ => rfl⟩
  | _, _, .cons (k := j) (v := v) (d := d) h t => by
    obtain ⟨h1, h2⟩ := rpK_get t
    unfold dget
    simp only [keyEq_kD]
    by_cases e : j = k
    · simp only [decide_eq_true e, if_true]
      exact ⟨fun d' e' => by cases e'; exact ⟨v, valV_pos e, h⟩, fun e' => by cases e'⟩
    · simp only [decide_eq_false e]
      rw [valV_neg (p := (j, v)) e]
      exact ⟨h1, h2⟩
theorem rpK_any {k : Key} : ∀ {kvs : List (Key × V)} {ds : List (D × D)}, RpK K F kvs ds → (kvs.any fun kv => decide (kv.1 = k)) = ds.any fun p => keyEq k p.1
  | _, _, .nil => rfl
  | _, _, .cons h t => by rw [List.any_cons, List.any_cons, rpK_any t, keyEq_kD]
theorem rpK_map {k : Key} {v : V} {d : D} (r : Rp K F v d) : ∀ {kvs : List (Key × V)} {ds : List (D × D)}, RpK K F kvs ds → RpK K F (kvs.map fun kv => if kv.1 = k then (kv.1, v) else kv) (ds.map fun p => if keyEq k p.1 then (p.1, d) else p)
  | _, _, .nil => .nil
  | _, _, .cons (k := j) h t => by
    rw [List.map_cons, List.map_cons]
    simp only [keyEq_kD]
    by_cases e : j = k
    · simp only [e, if_true, decide_true]; exact .cons r (rpK_map r t)
    · simp only [decide_eq_false e, if_neg e]; exact .cons h (rpK_map r t)
theorem RpK.snoc {k : Key} {v : V} {d : D} (r : Rp K F v d) : ∀ {kvs : List (Key × V)} {ds : List (D × D)}, RpK K F kvs ds → RpK K F (kvs ++ [(k, v)]) (ds ++ [(kD k, d)])
  | _, _, .nil => .cons r .nil
  | _, _, .cons h t => .cons h (RpK.snoc r t)
theorem rpK_put {kvs : List (Key × V)} {ds : List (D × D)} {k : Key} {v : V} {d : D} (h : RpK K F kvs ds) (r : Rp K F v d) : RpK K F (putK kvs k v) (dput k d ds) := by
  unfold putK dput
  rw [rpK_any h]
  split
  · exact rpK_map r h
  · exact h.snoc r
def cutD (ds : List D) (lo hi : Option Int) : List D := (ds.drop (HT.sIx ds.length 0 lo)).take (HT.sIx ds.length ds.length hi - HT.sIx ds.length 0 lo)
theorem rpA_cut {vs : List V} {ds : List D} (h : RpA K F vs ds) (lo hi : Option Int) : RpA K F (cutV vs lo hi) (cutD ds lo hi) := by
  unfold cutV cutD
  rw [h.length]
  exact (h.drop _).take _
def gIx : G2
  | .list ds, .int i => (atI ds i).map .fz
  | .tuple ds, .int i => (atI ds i).map .fz
  | .str z, .int i => if z.length ≤ sizeLine then (atI z.cps.toList i).map fun c => .fz (.str ⟨#[c]⟩) else none
  | .dict kvs, k => (keyOf k).bind fun k => (dget k kvs).map .fz
  | _, _ => none
def gSl (d : D) (lo hi : Option Int) : Option Rs := match d with
  | .list ds => some (.ow (.list (cutD ds lo hi)))
  | .tuple ds => some (.fz (.tuple (cutD ds lo hi)))
  | .str z => if z.length ≤ sizeLine then some (.fz (.str (cutS z lo hi))) else none
  | _ => none
section
variable {X : Cx}
theorem opt_map {α β : Type} {o : Option α} {f : α → β} {b : β} (e : o.map f = some b) : ∃ a, o = some a ∧ f a = b := by
  cases o with
  | none => cases e
  | some a => cases e; exact ⟨a, rfl, rfl⟩
theorem oIx (hu : X.A.units + 1 < cLine) : IxR X (rG X.K gIx) := by
  intro value slice pins s σ H x y v u Q I rx ry ⟨F, dx, dy, res, sm, hx, hy, e, q⟩ hs
  unfold gIx at e
  split at e
  · obtain ⟨d, e1, rfl⟩ := opt_map e
    obtain ⟨a, vs, ev, h1, r1⟩ := hx.list sm
    obtain ⟨z, e2, rz⟩ := rpA_atI r1 e1
    exact ix_list value slice pins s σ H x y v u Q I rx ry ⟨a, vs, _, z, ev, hy.int, .inl h1, e2, q.same sm rz⟩ hs
  · obtain ⟨d, e1, rfl⟩ := opt_map e
    obtain ⟨a, vs, ev, h1, r1⟩ := hx.tuple sm
    obtain ⟨z, e2, rz⟩ := rpA_atI r1 e1
    exact ix_tup value slice pins s σ H x y v u Q I rx ry ⟨a, vs, _, z, ev, hy.int, h1, e2, q.same sm rz⟩ hs
  · split at e
    case isFalse => cases e
    case isTrue hz =>
      obtain ⟨c, e1, rfl⟩ := opt_map e
      exact ix_str value slice pins s σ H x y v u Q I rx ry ⟨_, _, c, hx.str, hy.int, hz, e1, q.same sm (.str _)⟩ hs
  · cases ek : keyOf dy with
    | none => rw [ek] at e; cases e
    | some k =>
      rw [ek] at e
      obtain ⟨d, e1, rfl⟩ := opt_map e
      obtain ⟨a, kvs, rfl, h1, r1⟩ := hx.dict sm
      obtain ⟨z, e2, rz⟩ := (rpK_get r1).1 d e1
      have hk := hy.key ek
      subst hk
      cases rx
      have g : DGet H a (kV k) (some z) := e2 ▸ DGet.k h1
      exact tail_any (dict_typeIs I g) PySem.F.slot_dict_getitem.lookup (d_getItem hu I g ry fun w' s3 I3 rw' => ⟨z, H, I3, rw', q.same sm rz⟩) hs
  · cases e
theorem oSl : SlR X (fun x lo hi H Q => ∃ F dx res, Same F H ∧ Vw X.K F H x dx ∧ gSl dx lo hi = some res ∧ NewR X.K F H res Q) := by
  intro pins s σ H x v vl vu lo hi sl Q I rx hs pl pu ⟨F, dx, res, sm, hx, e, q⟩
  unfold gSl at e
  split at e
  · cases e
    obtain ⟨a, vs, ev, h1, r1⟩ := hx.list sm
    exact sl_list pins s σ H x v vl vu lo hi sl Q I rx hs pl pu ⟨a, vs, ev, .inl h1, fun p hp => q.lst sm (rpA_cut r1 lo hi) hp⟩
  · cases e
    obtain ⟨a, vs, ev, h1, r1⟩ := hx.tuple sm
    refine sl_tupA pins s σ H x v vl vu lo hi sl Q I rx hs pl pu ⟨a, vs, ev, h1, fun z => ?_, fun _ p hp => q.tup sm (rpA_cut r1 lo hi) hp⟩
    have hp := hx.rp (by intro _ z; cases z) (by intro _ z; cases z)
    subst ev
    refine q.same sm ?_
    rename_i ds
    have : cutD ds lo hi = ds := by
      unfold cutD
      rw [← r1.length, z.1, z.2, List.drop_zero, Nat.sub_zero, r1.length, List.take_length]
    rw [this]; exact hp
  · split at e
    case isFalse => cases e
    case isTrue hz =>
      cases e
      exact sl_str pins s σ H x v vl vu lo hi sl Q I rx hs pl pu ⟨_, hx.str, hz, q.same sm (.str _)⟩
  · cases e
end
theorem sem_ix {g : G2} {fa fb : M Rs} : ∀ σ H Q, tSem K (dOp2 g fa fb) σ H Q → tOp (rG K g) (tSem K fa) (tSem K fb) σ H Q := sem_op2 op2G
/-- a part of a slice -/
def tSemO (K : PySem.W.Frag) (f : M (Option Int)) : TO := fun σ H Q => ∃ F ρ r ρ', Sta K F H σ ρ ∧ f ρ = .ok r ρ' ∧ ∀ F' H', Ext K F H σ ρ F' H' σ ρ' → Q r H'
def dNoP : M (Option Int) := pr none
def dPart (f : M Rs) : M (Option Int) := bd f fun r => bd (look r) fun d => opt (match d with
  | .int i => some (some i)
  | _ => none)
theorem poWeak {X : Cx} {e : Option Expr} {t t' : TO} (h : PO X e t) (w : ∀ σ H Q, t' σ H Q → t σ H Q) : PO X e t' :=
  ⟨fun pins s σ H Q I q => h.run pins s σ H Q I (w σ H Q q)⟩
def dSl (fa : M Rs) (fl fh : M (Option Int)) : M Rs := bd fa fun ra => bd fl fun l => bd fh fun h => bd (look ra) fun d => opt (gSl d l h)
theorem sem_sl {fa : M Rs} {fl fh : M (Option Int)} : ∀ σ H Q, tSem K (dSl fa fl fh) σ H Q → tSl (fun x lo hi H Q => ∃ F dx res, Same F H ∧ Vw K F H x dx ∧ gSl dx lo hi = some res ∧ NewR K F H res Q) (tSem K fa) (tSemO K fl) (tSemO K fh) σ H Q := fun σ H Q ⟨F, ρ, res, ρ', s, e, k⟩ => by
  obtain ⟨ra, ρ1, e1, e⟩ := bd_ok e
  obtain ⟨l, ρ2, e2, e⟩ := bd_ok e
  obtain ⟨h, ρ3, e3, e⟩ := bd_ok e
  obtain ⟨d, ρ4, e4, e⟩ := bd_ok e
  obtain ⟨eg, e5⟩ := opt_ok e
  refine ⟨F, ρ, ra, ρ1, s, e1, fun F1 H1 x x1 r1 => ⟨F1, ρ1, l, ρ2, x1.st, e2, fun F2 H2 x2 => ⟨F2, ρ2, h, ρ3, x2.st, e3, fun F3 H3 x3 => ?_⟩⟩⟩
  have x23 := x2.trans x3
  obtain ⟨e4', w⟩ := look_ok x3.st (r1.ext x23) e4
  subst e4'; subst e5
  refine ⟨F3, d, res, x3.st.le, w, eg, fun F4 H4 v g hr => ?_⟩
  have y := x1.trans x23
  exact k F4 H4 v (y.trans (x3.st.grow g)) (x3.st.res g hr fun a z => y.back z)
section
variable {X : Cx} {a b : Expr} {fa fb : M Rs} {lo hi : Option Expr} {fl fh : M (Option Int)} {pos p2 : Pos}
theorem eix (hu : X.A.units + 1 < cLine) (ha : PE X a (tSem X.K fa)) (hb : PE X b (tSem X.K fb)) (hs : PlainIx b := by exact fun _ _ => rfl) : PE X (.Subscript a b pos) (tSem X.K (dOp2 gIx fa fb)) := peWeak (pe_ix (oIx hu) ha hb hs) sem_ix
theorem pn : PO X none (tSemO X.K dNoP) := poWeak po_none fun σ H Q ⟨F, ρ, r, ρ', s, e, k⟩ => by cases e; exact k F H (Ext.refl s)
theorem pp (h : PE X a (tSem X.K fa)) : PO X (some a) (tSemO X.K (dPart fa)) := poWeak (po_some h) fun σ H Q ⟨F, ρ, r, ρ', s, e, k⟩ => by
  obtain ⟨ra, ρ1, e1, e⟩ := bd_ok e
  obtain ⟨d, ρ4, e4, e⟩ := bd_ok e
  obtain ⟨eg, e5⟩ := opt_ok e
  refine ⟨F, ρ, ra, ρ1, s, e1, fun F1 H1 x x1 r1 => ?_⟩
  obtain ⟨e4', w⟩ := look_ok x1.st r1 e4
  subst e4'; subst e5
  split at eg
  · cases eg; exact ⟨_, w.int, k F1 H1 x1⟩
  · cases eg
theorem esl (ha : PE X a (tSem X.K fa)) (hl : PO X lo (tSemO X.K fl)) (hh : PO X hi (tSemO X.K fh)) : PE X (.Subscript a (.Slice lo hi none p2) pos) (tSem X.K (dSl fa fl fh)) := peWeak (pe_slice oSl ha hl hh) sem_sl
end

/-! ### calls of built-ins -/
def gLen : List D → Option Rs
  | [.list ds] => some (.fz (.int ds.length))
  | [.tuple ds] => some (.fz (.int ds.length))
  | [.str z] => if z.length ≤ sizeLine then some (.fz (.int z.length)) else none
  | [.dict kvs] => some (.fz (.int kvs.length))
  | _ => none
def gAbs : List D → Option Rs
  | [.int i] => some (.fz (.int (if i < 0 then -i else i)))
  | _ => none
def gInt : List D → Option Rs
  | [.int i] => some (.fz (.int i))
  | [.bool k] => some (.fz (.int (if k then 1 else 0)))
  | [.str a] => if a.length ≤ 640 then (intText? a).map fun n => .fz (.int n) else none
  | _ => none
def gStr : List D → Option Rs
  | [.int i] => if i.natAbs.log2 < 1920 then some (.fz (.str (toString i))) else none
  | _ => none
def gTuple : List D → Option Rs
  | [.list ds] => some (.fz (.tuple ds))
  | [.tuple ds] => some (.fz (.tuple ds))
  | _ => none
def gList : List D → Option Rs
  | [.list ds] => some (.ow (.list ds))
  | [.tuple ds] => some (.ow (.list ds))
  | _ => none
def intsOf : List D → Option (List Int)
  | [] => some []
  | .int i :: ds => (intsOf ds).map fun ns => i :: ns
  | _ :: _ => none
def boolsOf : List D → Option (List Bool)
  | [] => some []
  | .bool i :: ds => (boolsOf ds).map fun ns => i :: ns
  | _ :: _ => none
theorem intsOf_ok : ∀ {ds : List D} {ns : List Int}, intsOf ds = some ns → ds = ns.map .int
  | [], ns, h => by cases h; rfl
  | d :: ds, ns, h => by
    cases d with
    | int i =>
      obtain ⟨ms, e, rfl⟩ := opt_map (show (intsOf ds).map (fun ns => i :: ns) = some ns from h)
      rw [List.map_cons, intsOf_ok e]
    | _ => cases h
theorem boolsOf_ok : ∀ {ds : List D} {ns : List Bool}, boolsOf ds = some ns → ds = ns.map .bool
  | [], ns, h => by cases h; rfl
  | d :: ds, ns, h => by
    cases d with
    | bool i =>
      obtain ⟨ms, e, rfl⟩ := opt_map (show (boolsOf ds).map (fun ns => i :: ns) = some ns from h)
      rw [List.map_cons, boolsOf_ok e]
    | _ => cases h
theorem intsOf_map : ∀ ns : List Int, intsOf (ns.map .int) = some ns
  | [] => rfl
  | n :: ns => by rw [List.map_cons]; show (intsOf (ns.map .int)).map _ = _; rw [intsOf_map ns]; rfl
theorem boolsOf_map : ∀ ns : List Bool, boolsOf (ns.map .bool) = some ns
  | [] => rfl
  | n :: ns => by rw [List.map_cons]; show (boolsOf (ns.map .bool)).map _ = _; rw [boolsOf_map ns]; rfl
def maxL : List Int → Int
  | [] => 0
  | [a] => a
  | a :: b :: r => max a (maxL (b :: r))
def minL : List Int → Int
  | [] => 0
  | [a] => a
  | a :: b :: r => min a (minL (b :: r))
theorem maxL_spec : ∀ {ns : List Int}, ns ≠ [] → maxL ns ∈ ns ∧ ∀ y ∈ ns, y ≤ maxL ns
  | [], h => absurd rfl h
  | [a], _ => by simp [maxL]
  | a :: b :: r, _ => by
    obtain ⟨h1, h2⟩ := maxL_spec (ns := b :: r) (by simp)
    unfold maxL
    refine ⟨?_, fun y hy => ?_⟩
    · rcases Int.le_total a (maxL (b :: r)) with z | z
      · rw [Int.max_eq_right z]; exact List.mem_cons_of_mem _ h1
      · rw [Int.max_eq_left z]; exact List.mem_cons_self
    · rcases List.mem_cons.mp hy with z | z
      · rw [z]; exact Int.le_max_left _ _
      · exact Int.le_trans (h2 y z) (Int.le_max_right _ _)
theorem minL_spec : ∀ {ns : List Int}, ns ≠ [] → minL ns ∈ ns ∧ ∀ y ∈ ns, minL ns ≤ y
  | [], h => absurd rfl h
  | [a], _ => by simp [minL]
  | a :: b :: r, _ => by
    obtain ⟨h1, h2⟩ := minL_spec (ns := b :: r) (by simp)
    unfold minL
    refine ⟨?_, fun y hy => ?_⟩
    · rcases Int.le_total a (minL (b :: r)) with z | z
      · rw [Int.min_eq_left z]; exact List.mem_cons_self
      · rw [Int.min_eq_right z]; exact List.mem_cons_of_mem _ h1
    · rcases List.mem_cons.mp hy with z | z
      · rw [z]; exact Int.min_le_left _ _
      · exact Int.le_trans (Int.min_le_right _ _) (h2 y z)
def gMax : List D → Option Rs
  | [.int i, .int j] => some (.fz (.int (if j > i then j else i)))
  | [.list ds] => (intsOf ds).bind fun ns => if ns = [] then none else some (.fz (.int (maxL ns)))
  | _ => none
def gMin : List D → Option Rs
  | [.int i, .int j] => some (.fz (.int (if j < i then j else i)))
  | [.list ds] => (intsOf ds).bind fun ns => if ns = [] then none else some (.fz (.int (minL ns)))
  | _ => none
def gSum : List D → Option Rs
  | [.list ds] => (intsOf ds).map fun ns => .fz (.int ns.sum)
  | _ => none
def gAll : List D → Option Rs
  | [.list ds] => (boolsOf ds).map fun ns => .fz (.bool (ns.all id))
  | _ => none
def gAny : List D → Option Rs
  | [.list ds] => (boolsOf ds).map fun ns => .fz (.bool (ns.any id))
  | _ => none
def sortOk (ds : List D) : Bool := ds.all (fun d => ds.all fun e => PySem.W.alike d e) && ds.all noD && (ds.all (fun d => match d with
  | .tuple (_ :: _) => true
  | _ => false) || ds.all (fun d => match d with
  | .none => false
  | .tuple _ => false
  | _ => true)) && ds.all (fun d => decide (d.depth ≤ 60)) && decide (ds.length ≤ sizeLine)
def sortD (ds : List D) : List D := ds.mergeSort (PySem.W.dataLe false id)
def gSorted : List D → Option Rs
  | [.list ds] => if sortOk ds then some (.ow (.list (sortD ds))) else none
  | _ => none
section
variable {X : Cx}
theorem cLen : CallR X (.builtin "len") (rGN X.K gLen) := by
  intro pins s σ H xs us Q I r ⟨F, ds, res, sm, hx, e, q⟩
  unfold gLen at e
  split at e
  · cases e
    obtain ⟨x, rfl, hw⟩ := hx.one
    obtain ⟨a, vs, ev, h1, r1⟩ := hw.list sm
    subst ev
    exact call_len_seq pins s σ H _ us Q I r ⟨a, vs, rfl, .inl (.inl h1), q.same sm (by rw [r1.length]; exact .int _)⟩
  · cases e
    obtain ⟨x, rfl, hw⟩ := hx.one
    obtain ⟨a, vs, ev, h1, r1⟩ := hw.tuple sm
    subst ev
    exact call_len_seq pins s σ H _ us Q I r ⟨a, vs, rfl, .inr h1, q.same sm (by rw [r1.length]; exact .int _)⟩
  · split at e
    case isFalse => cases e
    case isTrue hz =>
      cases e
      obtain ⟨x, rfl, hw⟩ := hx.one
      exact call_len_str pins s σ H _ us Q I r ⟨_, by rw [hw.str], hz, q.same sm (.int _)⟩
  · cases e
    obtain ⟨x, rfl, hw⟩ := hx.one
    obtain ⟨a, kvs, ev, h1, r1⟩ := hw.dict sm
    subst ev
    obtain ⟨u, rfl, rx⟩ := vals1 r
    cases rx
    exact d_len I (.inl h1) fun t s' I' => ⟨.int kvs.length, H, I', ⟨t, rfl⟩, q.same sm (by rw [r1.length]; exact .int _)⟩
  · cases e
theorem cAbs : CallR X (.builtin "abs") (rGN X.K gAbs) := by
  intro pins s σ H xs us Q I r ⟨F, ds, res, sm, hx, e, q⟩
  unfold gAbs at e
  split at e
  · cases e
    obtain ⟨x, rfl, hw⟩ := hx.one
    exact call_abs pins s σ H _ us Q I r ⟨_, by rw [hw.int], q.same sm (.int _)⟩
  · cases e
theorem cInt : CallR X (.type "int") (rGN X.K gInt) := by
  intro pins s σ H xs us Q I r ⟨F, ds, res, sm, hx, e, q⟩
  unfold gInt at e
  split at e
  · cases e
    obtain ⟨x, rfl, hw⟩ := hx.one
    exact call_int1 pins s σ H _ us Q I r (.inl ⟨_, by rw [hw.int], q.same sm (.int _)⟩)
  · cases e
    obtain ⟨x, rfl, hw⟩ := hx.one
    exact call_int1 pins s σ H _ us Q I r (.inr ⟨_, by rw [hw.bool], q.same sm (.int _)⟩)
  · split at e
    case isFalse => cases e
    case isTrue hl =>
      obtain ⟨n, e1, rfl⟩ := opt_map e
      obtain ⟨x, rfl, hw⟩ := hx.one
      exact call_int_str pins s σ H _ us Q I r ⟨_, n, by rw [hw.str], e1, hl, q.same sm (.int _)⟩
  · cases e
theorem cStr : CallR X (.type "str") (rGN X.K gStr) := by
  intro pins s σ H xs us Q I r ⟨F, ds, res, sm, hx, e, q⟩
  unfold gStr at e
  split at e
  · split at e
    case isFalse => cases e
    case isTrue hl =>
      cases e
      obtain ⟨x, rfl, hw⟩ := hx.one
      exact call_str_int pins s σ H _ us Q I r ⟨_, by rw [hw.int], hl, q.same sm (.str _)⟩
  · cases e
theorem cTuple : CallR X (.type "tuple") (rGN X.K gTuple) := by
  intro pins s σ H xs us Q I r ⟨F, ds, res, sm, hx, e, q⟩
  unfold gTuple at e
  split at e
  · cases e
    obtain ⟨x, rfl, hw⟩ := hx.one
    obtain ⟨a, vs, ev, h1, r1⟩ := hw.list sm
    subst ev
    exact call_tuple_of pins s σ H _ us Q I r ⟨a, vs, rfl, .inl ⟨.inl h1, fun p hp => q.tup sm r1 hp⟩⟩
  · cases e
    obtain ⟨x, rfl, hw⟩ := hx.one
    obtain ⟨a, vs, ev, h1, r1⟩ := hw.tuple sm
    have hp := hw.rp (by intro _ z; cases z) (by intro _ z; cases z)
    subst ev
    exact call_tuple_of pins s σ H _ us Q I r ⟨a, vs, rfl, .inr ⟨h1, q.same sm hp⟩⟩
  · cases e
theorem cList : CallR X (.type "list") (rGN X.K gList) := by
  intro pins s σ H xs us Q I r ⟨F, ds, res, sm, hx, e, q⟩
  unfold gList at e
  split at e
  · cases e
    obtain ⟨x, rfl, hw⟩ := hx.one
    obtain ⟨a, vs, ev, h1, r1⟩ := hw.list sm
    subst ev
    exact call_list_of pins s σ H _ us Q I r ⟨a, vs, rfl, .inl (.inl h1), fun p hp => q.lst sm r1 hp⟩
  · cases e
    obtain ⟨x, rfl, hw⟩ := hx.one
    obtain ⟨a, vs, ev, h1, r1⟩ := hw.tuple sm
    subst ev
    exact call_list_of pins s σ H _ us Q I r ⟨a, vs, rfl, .inr h1, fun p hp => q.lst sm r1 hp⟩
  · cases e
theorem opt_bind {α β : Type} {o : Option α} {f : α → Option β} {b : β} (e : o.bind f = some b) : ∃ a, o = some a ∧ f a = some b := by
  cases o with
  | none => cases e
  | some a => exact ⟨a, rfl, e⟩
theorem pos_of {α : Type} {ns : List α} (h : ¬ ns = []) : 0 < ns.length := by
  cases ns with
  | nil => exact absurd rfl h
  | cons a r => simp
theorem cMax (hc : X.calm = true) : CallR X (.builtin "max") (rGN X.K gMax) := by
  intro pins s σ H xs us Q I r ⟨F, ds, res, sm, hx, e, q⟩
  unfold gMax at e
  split at e
  · cases e
    obtain ⟨x, y, rfl, hw, hv⟩ := hx.two
    exact call_max2 hc pins s σ H _ us Q I r ⟨_, _, by rw [hw.int, hv.int], q.same sm (.int _)⟩
  · obtain ⟨ns, e1, e2⟩ := opt_bind e
    split at e2
    case isTrue => cases e2
    case isFalse hn =>
      cases e2
      obtain ⟨x, rfl, hw⟩ := hx.one
      rw [intsOf_ok e1] at hw
      obtain ⟨a, vs, ev, h1, r1⟩ := hw.list sm
      subst ev
      rw [r1.ints] at h1
      obtain ⟨m1, m2⟩ := maxL_spec hn
      refine cr_max hc pins s σ H _ us Q I r ⟨a, ns, rfl, .inl h1, pos_of hn, fun m hm hle => ?_⟩
      have : m = maxL ns := Int.le_antisymm (m2 m hm) (hle _ m1)
      subst this
      exact q.same sm (.int _)
  · cases e
theorem cMin (hc : X.calm = true) : CallR X (.builtin "min") (rGN X.K gMin) := by
  intro pins s σ H xs us Q I r ⟨F, ds, res, sm, hx, e, q⟩
  unfold gMin at e
  split at e
  · cases e
    obtain ⟨x, y, rfl, hw, hv⟩ := hx.two
    exact call_min2 hc pins s σ H _ us Q I r ⟨_, _, by rw [hw.int, hv.int], q.same sm (.int _)⟩
  · obtain ⟨ns, e1, e2⟩ := opt_bind e
    split at e2
    case isTrue => cases e2
    case isFalse hn =>
      cases e2
      obtain ⟨x, rfl, hw⟩ := hx.one
      rw [intsOf_ok e1] at hw
      obtain ⟨a, vs, ev, h1, r1⟩ := hw.list sm
      subst ev
      rw [r1.ints] at h1
      obtain ⟨m1, m2⟩ := minL_spec hn
      refine cr_min hc pins s σ H _ us Q I r ⟨a, ns, rfl, .inl h1, pos_of hn, fun m hm hle => ?_⟩
      have : m = minL ns := Int.le_antisymm (hle _ m1) (m2 m hm)
      subst this
      exact q.same sm (.int _)
  · cases e
theorem cSum (hc : X.calm = true) : CallR X (.builtin "sum") (rGN X.K gSum) := by
  intro pins s σ H xs us Q I r ⟨F, ds, res, sm, hx, e, q⟩
  unfold gSum at e
  split at e
  · obtain ⟨ns, e1, rfl⟩ := opt_map e
    obtain ⟨x, rfl, hw⟩ := hx.one
    rw [intsOf_ok e1] at hw
    obtain ⟨a, vs, ev, h1, r1⟩ := hw.list sm
    subst ev
    rw [r1.ints] at h1
    exact cr_sum hc pins s σ H _ us Q I r ⟨a, ns, rfl, .inl h1, q.same sm (.int _)⟩
  · cases e
theorem cAll (hc : X.calm = true) : CallR X (.builtin "all") (rGN X.K gAll) := by
  intro pins s σ H xs us Q I r ⟨F, ds, res, sm, hx, e, q⟩
  unfold gAll at e
  split at e
  · obtain ⟨ns, e1, rfl⟩ := opt_map e
    obtain ⟨x, rfl, hw⟩ := hx.one
    rw [boolsOf_ok e1] at hw
    obtain ⟨a, vs, ev, h1, r1⟩ := hw.list sm
    subst ev
    rw [r1.bools] at h1
    exact cr_all hc pins s σ H _ us Q I r ⟨a, ns, rfl, .inl h1, q.same sm (.bl _)⟩
  · cases e
theorem cAny (hc : X.calm = true) : CallR X (.builtin "any") (rGN X.K gAny) := by
  intro pins s σ H xs us Q I r ⟨F, ds, res, sm, hx, e, q⟩
  unfold gAny at e
  split at e
  · obtain ⟨ns, e1, rfl⟩ := opt_map e
    obtain ⟨x, rfl, hw⟩ := hx.one
    rw [boolsOf_ok e1] at hw
    obtain ⟨a, vs, ev, h1, r1⟩ := hw.list sm
    subst ev
    rw [r1.bools] at h1
    exact cr_any hc pins s σ H _ us Q I r ⟨a, ns, rfl, .inl h1, q.same sm (.bl _)⟩
  · cases e
end
end
end DL

namespace DL
open PySem PySem.Spec PyProof.Rows L2
section
variable {K : PySem.W.Frag} {F H F' H' : Hp} {σ σ' : SS} {ρ ρ' : List Sl}

/-! ### sorted -/
theorem rp_back : ∀ {ps : List (V × D)}, (∀ p ∈ ps, Rp K F p.1 p.2) → RpA K F (ps.map (·.1)) (ps.map (·.2))
  | [], _ => .nil
  | p :: ps, h => .cons (h p List.mem_cons_self) (rp_back fun q hq => h q (List.mem_cons_of_mem _ hq))
theorem rp_zip : ∀ {vs : List V} {ds : List D}, RpA K F vs ds → ∀ p ∈ vs.zip ds, Rp K F p.1 p.2
  | _, _, .nil, p, h => by cases h
  | _, _, .cons r t, p, h => by
    rcases List.mem_cons.mp h with z | z
    · rw [z]; exact r
    · exact rp_zip t p z
theorem zip_fst {α β : Type} : ∀ {as : List α} {bs : List β}, as.length = bs.length → (as.zip bs).map (·.1) = as
  | [], [], _ => rfl
  | [], _ :: _, h => by simp at h
  | _ :: _, [], h => by simp at h
  | a :: as, b :: bs, h => by rw [List.zip_cons_cons, List.map_cons, zip_fst (by simpa using h)]
theorem zip_snd {α β : Type} : ∀ {as : List α} {bs : List β}, as.length = bs.length → (as.zip bs).map (·.2) = bs
  | [], [], _ => rfl
  | [], _ :: _, h => by simp at h
  | _ :: _, [], h => by simp at h
  | a :: as, b :: bs, h => by rw [List.zip_cons_cons, List.map_cons, zip_snd (by simpa using h)]
theorem each_zip {R : Value → V × D → Prop} : ∀ {us : List Value} {vs : List V} {ds : List D}, Vals vs us → vs.length = ds.length → (∀ v u d, RelV v u → (v, d) ∈ vs.zip ds → R u (v, d)) → PySem.W.EachIs R us (vs.zip ds)
  | _, _, [], .nil, _, _ => .nil
  | _, _, _ :: _, .nil, h, _ => by simp at h
  | _, _, [], .cons _ _, h, _ => by simp at h
  | _, _, d :: ds, .cons r t, h, f => by
    rw [List.zip_cons_cons]
    exact .cons (f _ _ d r (by simp)) (each_zip t (by simpa using h) fun v u e r' hm => f v u e r' (List.mem_cons_of_mem _ hm))
theorem vals_each : ∀ {us : List Value} {ps : List (V × D)}, PySem.W.EachIs (fun u p => RelV p.1 u) us ps → Vals (ps.map (·.1)) us
  | _, _, .nil => .nil
  | _, _, .cons r t => .cons r (vals_each t)
theorem sort_maps2 (ps : List (V × D)) : (ps.mergeSort (PySem.W.dataLe false (·.2))).map (·.2) = sortD (ps.map (·.2)) := by
  unfold sortD
  rw [List.map_mergeSort]
  intro a _ b _
  rfl
section
variable {X : Cx}
theorem sorted_seq {pins : List (Addr × Obj)} {s : Shared} {Q : VK} {l : Addr} {its : List Value} {vs : List V} {ds : List D} (hu : X.A.units + 64 < cLine) (I : Inv X pins σ H s) (sm : Same F H) (hl : s.heap.IsList l its.toArray) (rv : Vals vs its) (ra : RpA X.K F vs ds) (ok : sortOk ds = true)
    (q : NewR X.K F H (.ow (.list (sortD ds))) Q) : wpAny (model X.prog X.w) X.A (call (.builtin "sorted") [.ref l]) (EP X pins σ Q) X.xe s := by
  unfold sortOk at ok
  simp only [Bool.and_eq_true, Bool.or_eq_true, decide_eq_true_eq, List.all_eq_true] at ok
  obtain ⟨⟨⟨⟨h1, h2⟩, h3⟩, h4⟩, h5⟩ := ok
  have hlen := ra.length
  have snd : (vs.zip ds).map (·.2) = ds := zip_snd hlen
  have mem2 : ∀ p ∈ vs.zip ds, p.2 ∈ ds := fun p hp => by rw [← snd]; exact List.mem_map.mpr ⟨p, hp, rfl⟩
  refine PySem.W.sorted_data (R := fun u p => RelV p.1 u) (enc := (·.2)) (bs := vs.zip ds) hl (each_zip rv hlen fun v u d r _ => r)
    (each_zip rv hlen fun v u d r hm => Dp.reads I d v u ((rp_zip ra _ hm).dp sm (h2 d (mem2 _ hm))) r) ?_ ?_ (by rw [List.length_zip, hlen, Nat.min_self]; exact h5) (fun p hp => ?_) fun out ho he => ?_
  · rw [snd]; exact fun d hd e he => h1 d hd e he
  · rw [snd]
    rcases h3 with h3 | h3
    · refine .inl fun d hd => ?_
      have := h3 d hd
      cases d with
      | tuple xs =>
        cases xs with
        | nil => cases this
        | cons x r => exact ⟨x, r, rfl⟩
      | _ => cases this
    · refine .inr fun d hd => ?_
      have := h3 d hd
      cases d with
      | none => cases this
      | tuple _ => cases this
      | _ => exact ⟨fun z => (nomatch z), fun _ z => (nomatch z)⟩
  · have := h4 p.2 (mem2 p hp)
    omega
  · have va := vals_each he
    obtain ⟨ep, hat⟩ := PyProof.Rows.sortedAll_at s.heap its out.toArray
    have hout : ((vs.zip ds).mergeSort (PySem.W.dataLe false (·.2))).length = ds.length := by
      rw [List.length_mergeSort, List.length_zip, hlen, Nat.min_self]
    refine ⟨.ref (s.heap.objs.size + 1), upd H (s.heap.objs.size + 1) (.lst (((vs.zip ds).mergeSort (PySem.W.dataLe false (·.2))).map (·.1))), I.laid (t' := s.toks) (fun _ _ => PyProof.Rows.sortedAll_old) (Nat.le_succ _) ⟨?_, out, ep, va, hat⟩, rfl, ?_⟩
    · rw [List.length_map, hout]; exact h5
    · rw [← show sortD ((vs.zip ds).map (·.2)) = sortD ds by rw [snd], ← sort_maps2] at q
      exact q.lst sm (rp_back fun p hp => rp_zip ra p ((List.mergeSort_perm _ _).mem_iff.mp hp)) (I.hok.fresh (Nat.le_succ _))
theorem cSorted (hu : X.A.units + 64 < cLine) : CallR X (.builtin "sorted") (rGN X.K gSorted) := by
  intro pins s σ H xs us Q I r ⟨F, ds, res, sm, hx, e, q⟩
  unfold gSorted at e
  split at e
  · split at e
    case isFalse => cases e
    case isTrue ok =>
      cases e
      obtain ⟨x, rfl, hw⟩ := hx.one
      obtain ⟨a, vs, ev, h1, r1⟩ := hw.list sm
      subst ev
      obtain ⟨u, rfl, rx⟩ := vals1 r
      cases rx
      obtain ⟨its, rv, hl, _⟩ := I.list (.inl h1 : SqL X.K H a vs)
      exact sorted_seq hu I sm hl.isList rv r1 ok q
  · cases e
end

/-! ### methods that change what a slot holds -/
def MutOk (K : PySem.W.Frag) (r : V → List V → Hp → VK → Prop) (fr : Bool) (g : D → List D → Option (D × D)) : Prop :=
  ∀ (F H : Hp) (a : Addr) (d d' res : D) (ds : List D) (xs : List V) (Q : VK), Same F H → F a = none → Ob K F H a d → (if fr = true then RpA K F xs ds else VwA K F H xs ds) → g d ds = some (d', res) →
    (∀ o' v, Ob K F (upd H a o') a d' → Rp K F v res → Q v (upd H a o')) → r (.ref a) xs H Q
def isLst : D → Bool
  | .list _ => true
  | _ => false
def isDct : D → Bool
  | .dict _ => true
  | _ => false
def dMut (i : Nat) (c : D → Bool) (fr : Bool) (g : D → List D → Option (D × D)) (f : M (List Rs)) : M Rs := fun ρ => match ρ[i]? with
  | some (.ow d0) => if c d0 = true then bd f (fun rs => bd (if fr = true then frzA rs else lookA rs) fun ds => fun ρ1 => match ρ1[i]? with
    | some (.ow d) => match g d ds with
      | some (d', res) => .ok (.fz res) (ρ1.set i (.ow d'))
      | none => .bad
    | _ => .bad) ρ else .bad
  | _ => .bad
theorem Ext.updSlot {F₀ H₀ : Hp} {σ₀ : SS} {ρ₀ : List Sl} {i : Nat} {a : Addr} {d d' : D} {o : HO} (x : Ext K F₀ H₀ σ₀ ρ₀ F H σ ρ) (hσ : σ[i]? = some (some (.ref a))) (hρ : ρ[i]? = some (.ow d)) (ho : Ob K F (upd H a o) a d') : Ext K F₀ H₀ σ₀ ρ₀ F (upd H a o) σ (ρ.set i (.ow d')) := by
  have hi : i < ρ.length := (List.getElem?_eq_some_iff.mp hρ).1
  have me : OwAt σ ρ i a := ⟨hσ, d, hρ⟩
  obtain ⟨hf, d0, o0⟩ := x.st.held (.inl me)
  have owB : ∀ j b, OwAt σ (ρ.set i (.ow d')) j b → OwAt σ ρ j b := fun j b ⟨e, d1, q⟩ => by
    by_cases hj : i = j
    · subst hj; exact ⟨e, d, hρ⟩
    · rw [List.getElem?_set_ne hj] at q; exact ⟨e, d1, q⟩
  have lkB : ∀ j b, LkAt σ (ρ.set i (.ow d')) j b → LkAt σ ρ j b := fun j b ⟨e, d1, q⟩ => by
    by_cases hj : i = j
    · subst hj; rw [List.getElem?_set_self hi] at q; cases q
    · rw [List.getElem?_set_ne hj] at q; exact ⟨e, d1, q⟩
  have hdB : ∀ j b, HdAt σ (ρ.set i (.ow d')) j b → HdAt σ ρ j b := fun j b q => q.elim (fun z => .inl (owB j b z)) fun z => .inr (lkB j b z)
  refine ⟨⟨fun b u e => ?_, by rw [List.length_set]; exact x.st.len, fun j s q => ?_, fun j k b h1 h2 => x.st.dj j k b (hdB j b h1) (hdB k b h2)⟩, x.fr, fun b u e n => ?_, x.nf, fun b e => ?_, fun j b q => x.ow j b (owB j b q), fun j b q => x.lk j b (lkB j b q)⟩
  · have hb : b ≠ a := fun z => by subst z; rw [hf] at e; cases e
    rw [upd_ne hb]; exact x.st.le b u e
  · by_cases hj : i = j
    · subst hj
      rw [List.getElem?_set_self hi] at q; cases q
      exact ⟨a, hσ, hf, ho⟩
    · rw [List.getElem?_set_ne hj] at q
      have z := x.st.sl j s q
      cases s with
      | em => trivial
      | fz d => exact z
      | ow d1 =>
        obtain ⟨b, e, nf, ob⟩ := z
        have hb : b ≠ a := fun z => by
          subst z
          exact hj (x.st.dj i j _ (.inl me) (.inl ⟨e, d1, q⟩))
        exact ⟨b, e, nf, ob.mono (Same.refl _) (upd_ne hb)⟩
      | lk d1 =>
        obtain ⟨b, e, nf, ob⟩ := z
        have hb : b ≠ a := fun z => by
          subst z
          exact hj (x.st.dj i j _ (.inl me) (.inr ⟨e, d1, q⟩))
        exact ⟨b, e, nf, ob.mono (Same.refl _) (upd_ne hb)⟩
  · have hb : b ≠ a := fun z => by
      subst z
      rcases x.ow i _ me with y | y
      · exact n i y
      · rw [e] at y; cases y
    rw [upd_ne hb]; exact x.kp b u e n
  · by_cases hb : b = a
    · subst hb; rw [upd_same]; exact fun z => nomatch z
    · rw [upd_ne hb]; exact x.gr b e
theorem sem_mut {T : String} {i : Nat} {c : D → Bool} {fr : Bool} {g : D → List D → Option (D × D)} {f : M (List Rs)} {r : V → List V → Hp → VK → Prop} (hc : ∀ F H a d, c d = true → Ob K F H a d → tyV K T (.ref a) H) (h : MutOk K r fr g) :
    ∀ σ H Q, tSem K (dMut i c fr g f) σ H Q → tBM K T r (tVar i) (tSemA K f) σ H Q := fun σ H Q ⟨F, ρ, res, ρ', s, e, k⟩ => by
  unfold dMut at e
  cases q0 : ρ[i]? with
  | none => rw [q0] at e; cases e
  | some sl =>
    rw [q0] at e
    cases sl with
    | em => cases e
    | fz _ => cases e
    | lk _ => cases e
    | ow d0 =>
      simp only at e
      split at e
      case isFalse => cases e
      case isTrue hc0 =>
        obtain ⟨rs, ρ1, e1, e⟩ := bd_ok e
        obtain ⟨ds, ρ2, e2, e⟩ := bd_ok e
        obtain ⟨a, ea, hf0, ho0⟩ := s.sl i _ q0
        cases q1 : ρ2[i]? with
        | none => rw [q1] at e; cases e
        | some sl2 =>
          rw [q1] at e
          cases sl2 with
          | em => cases e
          | fz _ => cases e
          | lk _ => cases e
          | ow d =>
            simp only at e
            cases eg : g d ds with
            | none => rw [eg] at e; cases e
            | some p =>
              obtain ⟨d', rs'⟩ := p
              rw [eg] at e
              cases e
              refine ⟨.ref a, ea, hc F H a d0 hc0 ho0, F, ρ, rs, ρ1, s, e1, fun F1 H1 xs x1 q2 => ?_⟩
              have main : ∀ F2, Ext K F H σ ρ F2 H1 σ ρ2 → (if fr = true then RpA K F2 xs ds else VwA K F2 H1 xs ds) → r (.ref a) xs H1 Q := fun F2 x2 hv => by
                obtain ⟨b, eb, hf, ho⟩ := x2.st.sl i _ q1
                rw [ea] at eb; cases eb
                refine h F2 H1 a d d' rs' ds xs Q x2.st.le hf ho hv eg fun o' v ho' rv => ?_
                exact k F2 _ v (x2.updSlot ea q1 ho') rv
              cases fr with
              | true =>
                obtain ⟨F2, x2, rp, _⟩ := frzA_ok x1 q2 e2
                exact main F2 x2 rp
              | false =>
                obtain ⟨z, w⟩ := lookA_ok x1.st q2 e2
                subst z
                exact main F1 x1 w
def dMut0 (i : Nat) (c : D → Bool) (g : D → List D → Option (D × D)) : M Rs := dMut i c false g dNil
theorem sem_mut0 {T : String} {i : Nat} {c : D → Bool} {g : D → List D → Option (D × D)} {r : V → List V → Hp → VK → Prop} (hc : ∀ F H a d, c d = true → Ob K F H a d → tyV K T (.ref a) H) (h : MutOk K r false g) :
    ∀ σ H Q, tSem K (dMut0 i c g) σ H Q → tBM0 K T r (tVar i) σ H Q := fun σ H Q q => by
  obtain ⟨v, e, ty, F, ρ, rs, ρ1, s, e1, k⟩ := sem_mut (T := T) hc h σ H Q q
  cases e1
  exact ⟨v, e, ty, k F H [] (Ext.refl s) ⟨rfl, fun i v r h => by simp at h, fun i j a d e h => by simp at h⟩⟩
theorem ty_lst : ∀ F H a d, isLst d = true → Ob K F H a d → tyV K "list" (.ref a) H := fun F H a d h o => by
  cases d with
  | list ds => obtain ⟨vs, e, _⟩ := o; exact .inl ⟨rfl, vs, .inl (.inl e)⟩
  | _ => cases h
def gAppend : D → List D → Option (D × D)
  | .list ds, [d] => if ds.length < sizeLine then some (.list (ds ++ [d]), .none) else none
  | _, _ => none
def gExtend : D → List D → Option (D × D)
  | .list ds, [.list es] => if ds.length + es.length ≤ sizeLine then some (.list (ds ++ es), .none) else none
  | _, _ => none
def gPop : D → List D → Option (D × D)
  | .list ds, [] => (ds[ds.length - 1]?).map fun d => (.list ds.dropLast, d)
  | .list ds, [.int i] => if -(2 ^ 63) ≤ i ∧ i < 2 ^ 63 then (seqIndex? i ds.length).bind fun k => (ds[k]?).map fun d => (.list (ds.eraseIdx k), d) else none
  | _, _ => none
def gInsert : D → List D → Option (D × D)
  | .list ds, [.int i, d] => if ds.length < sizeLine ∧ 0 ≤ i ∧ i < 2 ^ 63 then some (.list (ds.take i.toNat ++ [d] ++ ds.drop i.toNat), .none) else none
  | _, _ => none
theorem RpA.inv1 {xs : List V} {d : D} (h : RpA K F xs [d]) : ∃ x, xs = [x] ∧ Rp K F x d := by
  cases h with
  | cons h t => cases t; exact ⟨_, rfl, h⟩
theorem RpA.inv2 {xs : List V} {d e : D} (h : RpA K F xs [d, e]) : ∃ x y, xs = [x, y] ∧ Rp K F x d ∧ Rp K F y e := by
  cases h with
  | cons h t => obtain ⟨y, rfl, r⟩ := t.inv1; exact ⟨_, y, rfl, h, r⟩
theorem rpA_dropLast {vs : List V} {ds : List D} (h : RpA K F vs ds) : RpA K F vs.dropLast ds.dropLast := by
  rw [List.dropLast_eq_take, List.dropLast_eq_take, h.length]; exact h.take _
theorem m_append : MutOk K rAppend true gAppend := fun F H a d d' res ds xs Q sm hf ho hv eg k => by
  unfold gAppend at eg
  split at eg
  · split at eg
    case isFalse => cases eg
    case isTrue hl =>
      cases eg
      obtain ⟨vs, eo, ra⟩ := ho
      obtain ⟨x, rfl, rx⟩ := RpA.inv1 (show RpA K F xs [_] from hv)
      exact ⟨a, vs, x, rfl, rfl, eo, by rw [ra.length]; exact hl, k _ _ ⟨_, upd_same, ra.app (.one rx)⟩ .non⟩
  · cases eg
/-- the list that is put behind may be any list that is read -/
def rExtR : V → List V → Hp → VK → Prop := fun x vs H Q => ∃ l b xs zs, x = .ref l ∧ vs = [.ref b] ∧ H l = some (.lst xs) ∧ Rd H b (.lst zs) ∧ xs.length + zs.length ≤ sizeLine ∧ Q .non (upd H l (.lst (xs ++ zs)))
theorem mt_extR {X : Cx} : MtR X "list.extend" rExtR := by
  intro pins s σ H x vs v us Q I rx rv ⟨l, b, xs, zs, ex, evs, hl, hb, hz, q⟩
  subst ex; subst evs
  cases rx
  obtain ⟨u, rfl, ru⟩ := rv.one
  cases ru
  obtain ⟨_, its, n, r1, o1⟩ := I.hok l _ hl
  obtain ⟨_, its2, n2, r2, o2⟩ := hb.ok I.hok
  have g1 := r1.length
  have g2 := r2.length
  have g5 : its.toArray.size + its2.toArray.size ≤ sizeLine := by rw [List.size_toArray, List.size_toArray, ← g1, ← g2]; exact hz
  have g6 : its.toArray.size ≤ its.toArray.size + its2.toArray.size := Nat.le_add_right _ _
  have g3 : Builtin.List.listTooLong (its.toArray.size + its2.toArray.size) = false := notLongL g5
  have g4 : ¬ (!its.toArray.isEmpty && Builtin.List.listTooLong (its.toArray.size + its2.toArray.size)) = true := by rw [g3, Bool.and_false]; exact Bool.false_ne_true
  have run := AutoSeq1.list_extend_list_list_0 l its.toArray n b its2.toArray n2 g4 (Nat.le_trans g6 g5) (Nat.le_succ_of_le g5)
  refine call_meets F.slot_list_extend ⟨_, o1, rfl⟩ F.entry_list_extend (F.args_list_extend_2 _ _) run ⟨o1, o2, .non, _, ?_, rfl, q⟩
  exact I.lset (its' := its ++ its2) hl o1 (by simp) (r1.append r2) (by rw [List.length_append]; exact hz)
theorem m_extend : MutOk K rExtR false gExtend := fun F H a d d' res ds xs Q sm hf ho hv eg k => by
  unfold gExtend at eg
  split at eg
  · split at eg
    case isFalse => cases eg
    case isTrue hl =>
      cases eg
      obtain ⟨vs, eo, ra⟩ := ho
      obtain ⟨x, rfl, hw⟩ := (show VwA K F H xs [_] from hv).one
      obtain ⟨b, ws, rfl, h1, r1⟩ := hw.list sm
      exact ⟨a, b, vs, ws, rfl, rfl, eo, h1, by rw [ra.length, r1.length]; exact hl, k _ _ ⟨_, upd_same, ra.app r1⟩ .non⟩
  · cases eg
def rPops : V → List V → Hp → VK → Prop := fun x xs H Q => rPop x xs H Q ∨ rPopAt x xs H Q
theorem mt_pops {X : Cx} : MtR X "list.pop" rPops := MtR.or mt_pop mt_popAt
theorem m_pop : MutOk K rPops false gPop := fun F H a d d' res ds xs Q sm hf ho hv eg k => by
  unfold gPop at eg
  split at eg
  · obtain ⟨d1, e1, e2⟩ := opt_map eg
    cases e2
    obtain ⟨vs, eo, ra⟩ := ho
    have hxs : xs = [] := by
      have hv : VwA K F H xs [] := hv
      cases xs with
      | nil => rfl
      | cons _ _ => exact hv.elim
    subst hxs
    have hi : vs.length - 1 < vs.length := by rw [ra.length]; exact (List.getElem?_eq_some_iff.mp e1).1
    have ev : vs[vs.length - 1]? = some vs[vs.length - 1] := List.getElem?_eq_getElem hi
    exact .inl ⟨a, vs, _, rfl, rfl, eo, ev, k _ _ ⟨_, upd_same, rpA_dropLast ra⟩ (ra.get ev (by rw [ra.length]; exact e1))⟩
  · split at eg
    case isFalse => cases eg
    case isTrue hb =>
      obtain ⟨j, e1, eg⟩ := opt_bind eg
      obtain ⟨d1, e2, e3⟩ := opt_map eg
      cases e3
      obtain ⟨vs, eo, ra⟩ := ho
      obtain ⟨x, rfl, hw⟩ := (show VwA K F H xs [_] from hv).one
      have hj : j < vs.length := by rw [ra.length]; exact (List.getElem?_eq_some_iff.mp e2).1
      have ev : vs[j]? = some vs[j] := List.getElem?_eq_getElem hj
      exact .inr ⟨a, vs, _, j, _, rfl, by rw [hw.int], eo, hb.1, hb.2, by rw [ra.length]; exact e1, ev, k _ _ ⟨_, upd_same, ra.erase j⟩ (ra.get ev e2)⟩
  · cases eg
theorem m_insert : MutOk K (fun x vs H Q => ∃ (l : Addr) (xs : List V) (i : Int) (y : V), x = .ref l ∧ vs = [.int i, y] ∧ H l = some (.lst xs) ∧ xs.length < sizeLine ∧ 0 ≤ i ∧ i < 2 ^ 63 ∧
    Q .non (upd H l (.lst (xs.take i.toNat ++ [y] ++ xs.drop i.toNat)))) true gInsert := fun F H a d d' res ds xs Q sm hf ho hv eg k => by
  unfold gInsert at eg
  split at eg
  · split at eg
    case isFalse => cases eg
    case isTrue hb =>
      cases eg
      obtain ⟨vs, eo, ra⟩ := ho
      obtain ⟨x, y, rfl, rx, ry⟩ := RpA.inv2 (show RpA K F xs [_, _] from hv)
      cases rx
      exact ⟨a, vs, _, y, rfl, rfl, eo, by rw [ra.length]; exact hb.1, hb.2.1, hb.2.2, k _ _ ⟨_, upd_same, ((ra.take _).app (.one ry)).app (ra.drop _)⟩ .non⟩
  · cases eg
section
variable {X : Cx} {o e : Expr} {es : List Expr} {name : Str} {apos cpos : Pos} {T id : String} {r : V → List V → Hp → VK → Prop} {f : M (List Rs)} {i : Nat} {c : D → Bool} {fr : Bool} {g : D → List D → Option (D × D)}
theorem emut (pa : PlainAttrs T) (slot : Slot T name id) (hty : typeOf (.builtin id) = pure (.type "method_descriptor")) (hm : MtR X id r) (hc : ∀ F H a d, c d = true → Ob X.K F H a d → tyV X.K T (.ref a) H) (h : MutOk X.K r fr g) (ho : PE X o (tVar i)) (ha : PA X (e :: es) (tSemA X.K f))
    (hbase : attributeBase o name X.env (eval o X.env) = eval o X.env := by rfl)
    (hfew : ((backTo cpos (starEach (e :: es) X.env)).all (fun x => !x.1) && (backToKw cpos (keywordEach [] X.env)).all (fun x => x.1.isSome)
      && decide ((e :: es).length + ([] : List Keyword).length + (if ([] : List Keyword).isEmpty then 0 else 1) < 30)) = true := by rfl)
    (hline : (apos.endLine == cpos.line) = true := by rfl) (hs : starEach (e :: es) X.env = (false, eval e X.env) :: starEach es X.env := by rfl) (hplain : (backTo cpos (starEach es X.env)).any (·.1) = false := by rfl) :
    PE X (.Call (.Attribute o name apos) (e :: es) [] cpos) (tSem X.K (dMut i c fr g f)) := peWeak (pe_bm pa slot hty hm ho ha hbase hfew hline hs hplain) (sem_mut hc h)
theorem emut0 (pa : PlainAttrs T) (slot : Slot T name id) (hty : typeOf (.builtin id) = pure (.type "method_descriptor")) (hm : MtR X id r) (hc : ∀ F H a d, c d = true → Ob X.K F H a d → tyV X.K T (.ref a) H) (h : MutOk X.K r false g) (ho : PE X o (tVar i))
    (hbase : attributeBase o name X.env (eval o X.env) = eval o X.env := by rfl) (hline : (apos.endLine == cpos.line) = true := by rfl) : PE X (.Call (.Attribute o name apos) [] [] cpos) (tSem X.K (dMut0 i c g)) := peWeak (pe_bm0 pa slot hty hm ho hbase hline) (sem_mut0 hc h)
end
end
end DL

namespace DL
open PySem PySem.Spec PyProof.Rows L2
section
variable {K : PySem.W.Frag} {F H F' H' : Hp} {σ σ' : SS} {ρ ρ' : List Sl}

/-! ### is, in -/
def isB (b : Bool) : D → Bool
  | .bool a => a == b
  | _ => false
def gIs : D → D → Option Bool
  | x, .none => some (isNone x)
  | x, .bool b => some (isB b x)
  | _, _ => none
def gIsNot (x y : D) : Option Bool := (gIs x y).map fun b => !b
def gIn : D → D → Option Bool
  | x, .list ds => if SeqAt.shaped x && SeqAt.shaped (.list ds) then some (ds.any fun z => PyData.eqv z x) else none
  | x, .tuple ds => if SeqAt.shaped x && SeqAt.shaped (.tuple ds) then some (ds.any fun z => PyData.eqv z x) else none
  | x, .dict kvs => (keyOf x).map fun k => (dget k kvs).isSome
  | .str x, .str y => some (if x.cps.size = 1 then decide (x.cps.getD 0 0 ∈ y.cps.toList) else !(Builtin.Str.occurrences y x 0 y.length 1).isEmpty)
  | _, _ => none
def gNotIn (x y : D) : Option Bool := (gIn x y).map fun b => !b
theorem rpK_some {k : Key} {kvs : List (Key × V)} {ds : List (D × D)} (r1 : RpK K F kvs ds) : (valV kvs k).isSome = (dget k ds).isSome := by
  obtain ⟨g1, g2⟩ := rpK_get (k := k) r1
  cases z : dget k ds with
  | none => rw [g2 z]; rfl
  | some d => obtain ⟨w, e1, _⟩ := g1 d z; rw [e1]; rfl
theorem isNone_V {v : V} {d : D} (h : Vw K F H v d) : decide (v = .non) = isNone d := by
  rcases h with h | ⟨a, rfl, o⟩
  · cases h <;> rfl
  · cases d with
    | list _ => rfl
    | dict _ => rfl
    | _ => exact o.elim
theorem vw_bool {v : V} {d : D} {b : Bool} {u : Value} (h : Vw K F H v d) (r : RelV v u) : isB b d = (u == Value.bool b) := by
  rcases h with h | ⟨a, rfl, o⟩
  · cases h with
    | non => cases r; rfl
    | bl a =>
      cases (show u = Value.bool a from r)
      by_cases e : a = b
      · subst e; simp [isB]
      · have h1 : (Value.bool a == Value.bool b) = false := beq_eq_false_iff_ne.mpr fun z => e (Value.bool.inj z)
        have h2 : (a == b) = false := beq_eq_false_iff_ne.mpr e
        rw [h1]; exact h2
    | int i => obtain ⟨t, rfl⟩ := r; rfl
    | str x => obtain ⟨t, rfl⟩ := r; rfl
    | lst _ _ => cases r; rfl
    | tup _ _ => cases r; rfl
    | dct _ _ => cases r; rfl
  · cases r
    cases d with
    | list _ => rfl
    | dict _ => rfl
    | _ => exact o.elim
theorem notMap {o : Option Bool} {k : Bool} (h : o.map (fun b => !b) = some k) : ∃ b, o = some b ∧ k = !b := by
  cases o with
  | none => cases h
  | some b => cases h; exact ⟨b, rfl, rfl⟩
section
variable {X : Cx}
theorem is_bool {u : Value} {b : Bool} {A : Around} {E : Value → Shared → Prop} {Q : Value → Shared → Prop} {s : Shared} {v : V} (r : RelV v u) (h : Q (.bool (u == Value.bool b)) s) : wpAny (model X.prog X.w) A (compareOp .Is u (.bool b)) Q E s := by
  by_cases e : u = Value.bool b
  · subst e
    exact wpAny_is_self rfl (by simpa using h)
  · have e2 : (u == Value.bool b) = false := beq_eq_false_iff_ne.mpr e
    rw [e2] at h
    refine wpAny_is_other ?_ e h
    cases v with
    | non => cases r; rfl
    | bl a => cases (show u = Value.bool a from r); rfl
    | int i => obtain ⟨t, rfl⟩ := r; rfl
    | str x => obtain ⟨t, rfl⟩ := r; rfl
    | byt x => obtain ⟨t, rfl⟩ := r; rfl
    | flt x => obtain ⟨t, rfl⟩ := r; rfl
    | ref a => cases r; rfl
    | ty n => cases r; rfl
theorem isnot_bool {u : Value} {b : Bool} {A : Around} {E : Value → Shared → Prop} {Q : Value → Shared → Prop} {s : Shared} {v : V} (r : RelV v u) (h : Q (.bool (!(u == Value.bool b))) s) : wpAny (model X.prog X.w) A (compareOp .IsNot u (.bool b)) Q E s := by
  by_cases e : u = Value.bool b
  · subst e
    exact wpAny_isNot_self rfl (by simpa using h)
  · have e2 : (u == Value.bool b) = false := beq_eq_false_iff_ne.mpr e
    rw [e2] at h
    refine wpAny_isNot_other ?_ e h
    cases v with
    | non => cases r; rfl
    | bl a => cases (show u = Value.bool a from r); rfl
    | int i => obtain ⟨t, rfl⟩ := r; rfl
    | str x => obtain ⟨t, rfl⟩ := r; rfl
    | byt x => obtain ⟨t, rfl⟩ := r; rfl
    | flt x => obtain ⟨t, rfl⟩ := r; rfl
    | ref a => cases r; rfl
    | ty n => cases r; rfl
theorem oIs : OpR X (compareOp .Is) (rG X.K (gB gIs)) := by
  intro pins s σ H x y v u Q I rx ry ⟨F, dx, dy, res, sm, hx, hy, e, q⟩
  obtain ⟨k, e0, rfl⟩ := map_b e
  clear e
  have e := e0
  clear e0
  unfold gIs at e
  split at e
  · cases e
    refine op_isN pins s σ H x y v u Q I rx ry ⟨hy.none, ?_⟩
    rw [isNone_V hx]; exact q.same sm (.bl _)
  · cases e
    rw [hy.bool] at ry
    cases ry
    rw [vw_bool hx rx] at q
    exact is_bool rx ⟨.bl _, H, I, rfl, q.same sm (.bl _)⟩
  · cases e
theorem oIsNot : OpR X (compareOp .IsNot) (rG X.K (gB gIsNot)) := by
  intro pins s σ H x y v u Q I rx ry ⟨F, dx, dy, res, sm, hx, hy, e, q⟩
  obtain ⟨k, e0, rfl⟩ := map_b e
  clear e
  obtain ⟨b, e, rfl⟩ := notMap e0
  clear e0
  unfold gIs at e
  split at e
  · cases e
    refine op_notN pins s σ H x y v u Q I rx ry ⟨hy.none, ?_⟩
    rw [isNone_V hx]; exact q.same sm (.bl _)
  · cases e
    rw [hy.bool] at ry
    cases ry
    rw [vw_bool hx rx] at q
    exact isnot_bool rx ⟨.bl _, H, I, rfl, q.same sm (.bl _)⟩
  · cases e
theorem oIn (hu : X.A.units + 65 < cLine) : OpR X (compareOp .In) (rG X.K (gB gIn)) := by
  intro pins s σ H x y v u Q I rx ry ⟨F, dx, dy, res, sm, hx, hy, e, q⟩
  obtain ⟨k, e0, rfl⟩ := map_b e
  clear e
  have e := e0
  clear e0
  unfold gIn at e
  split at e
  · split at e
    case isFalse => cases e
    case isTrue h =>
      cases e
      rw [Bool.and_eq_true] at h
      exact op_inD hu pins s σ H x y v u Q I rx ry ⟨_, _, hx.dp sm (noD_shaped h.1), hy.dp sm (noD_shaped h.2), h.1, h.2, q.same sm (.bl _)⟩
  · split at e
    case isFalse => cases e
    case isTrue h =>
      cases e
      rw [Bool.and_eq_true] at h
      obtain ⟨as, r1⟩ := Dp.reads I _ x v (hx.dp sm (noD_shaped h.1)) rx
      obtain ⟨bs, r2⟩ := Dp.reads I _ y u (hy.dp sm (noD_shaped h.2)) ry
      exact SeqAt.in_tuple_reads r2 r1 (SeqAt.canLay_of_shaped h.2) (SeqAt.canLay_of_shaped h.1) (room_in_shaped h.1 hu) ⟨.bl _, H, I, rfl, q.same sm (.bl _)⟩
  · obtain ⟨k, ek, rfl⟩ := opt_map e
    obtain ⟨a, kvs, rfl, h1, r1⟩ := hy.dict sm
    have hk := hx.key ek
    subst hk
    cases ry
    refine d_in (o := valV kvs k) (by omega) I (DGet.k h1) rx fun s' I' => ⟨.bl _, H, I', rfl, ?_⟩
    rw [rpK_some r1]; exact q.same sm (.bl _)
  · cases e
    rename_i a b
    split at q
    · rename_i h1
      refine op_in_sign pins s σ H x y v u Q I rx ry ⟨a.cps.getD 0 0, b, ?_, hy.str, q.same sm (.bl _)⟩
      rw [hx.str]
      congr 1
      cases a with
      | mk cps =>
        congr 1
        have h1 : cps.size = 1 := h1
        refine Array.ext (by simp [h1]) fun i hi _ => ?_
        have : i = 0 := by omega
        subst this
        simp [Array.getD, h1]
    · exact op_in_str pins s σ H x y v u Q I rx ry ⟨_, _, hx.str, hy.str, q.same sm (.bl _)⟩
  · cases e
theorem oNotIn (hu : X.A.units + 65 < cLine) : OpR X (compareOp .NotIn) (rG X.K (gB gNotIn)) := by
  intro pins s σ H x y v u Q I rx ry ⟨F, dx, dy, res, sm, hx, hy, e, q⟩
  obtain ⟨k, e0, rfl⟩ := map_b e
  clear e
  obtain ⟨b0, e, rfl⟩ := notMap e0
  clear e0
  unfold gIn at e
  split at e
  · split at e
    case isFalse => cases e
    case isTrue h =>
      cases e
      rw [Bool.and_eq_true] at h
      exact op_notInD hu pins s σ H x y v u Q I rx ry ⟨_, _, hx.dp sm (noD_shaped h.1), hy.dp sm (noD_shaped h.2), h.1, h.2, q.same sm (.bl _)⟩
  · split at e
    case isFalse => cases e
    case isTrue h =>
      cases e
      rw [Bool.and_eq_true] at h
      obtain ⟨as, r1⟩ := Dp.reads I _ x v (hx.dp sm (noD_shaped h.1)) rx
      obtain ⟨bs, r2⟩ := Dp.reads I _ y u (hy.dp sm (noD_shaped h.2)) ry
      exact SeqAt.notIn_tuple_reads r2 r1 (SeqAt.canLay_of_shaped h.2) (SeqAt.canLay_of_shaped h.1) (room_in_shaped h.1 hu) ⟨.bl _, H, I, rfl, q.same sm (.bl _)⟩
  · obtain ⟨k, ek, rfl⟩ := opt_map e
    obtain ⟨a, kvs, rfl, h1, r1⟩ := hy.dict sm
    have hk := hx.key ek
    subst hk
    cases ry
    refine d_notIn (o := valV kvs k) (by omega) I (DGet.k h1) rx fun s' I' => ⟨.bl _, H, I', rfl, ?_⟩
    rw [rpK_some r1]; exact q.same sm (.bl _)
  · cases e
    rename_i a b
    split at q
    · rename_i h1
      refine op_notIn_sign pins s σ H x y v u Q I rx ry ⟨a.cps.getD 0 0, b, ?_, hy.str, q.same sm (.bl _)⟩
      rw [hx.str]
      congr 1
      cases a with
      | mk cps =>
        congr 1
        have h1 : cps.size = 1 := h1
        refine Array.ext (by simp [h1]) fun i hi _ => ?_
        have : i = 0 := by omega
        subst this
        simp [Array.getD, h1]
    · exact op_notIn_str pins s σ H x y v u Q I rx ry ⟨_, _, hx.str, hy.str, q.same sm (.bl _)⟩
  · cases e
end

/-! ### tests -/
def tru : D → Option Bool
  | .none => some false
  | .bool b => some b
  | .int i => some (i != 0)
  | .str x => if x.length ≤ sizeLine then some ((x.length : Int) != 0) else none
  | .list ds => some (!ds.isEmpty)
  | .tuple ds => some (!ds.isEmpty)
  | .dict ds => some (!ds.isEmpty)
def dTru (f : M Rs) : M Bool := bd f fun r => bd (look r) fun d => opt (tru d)
theorem empty_len {α β : Type} {as : List α} {bs : List β} (h : as.length = bs.length) : (!as.isEmpty) = !bs.isEmpty := by
  cases as <;> cases bs <;> first | rfl | simp at h
theorem tru_ok' {v : V} {d : D} {k : Bool} (s : Same F H) (h : Vw K F H v d) (e : tru d = some k) : TruV K v H k := by
  cases d with
  | none => cases e; rw [h.none]; rfl
  | bool b => cases e; rw [h.bool]; rfl
  | int i => cases e; rw [h.int]; rfl
  | str x =>
    unfold tru at e
    simp only at e
    split at e
    case isFalse => cases e
    case isTrue hl => cases e; rw [h.str]; exact ⟨hl, rfl⟩
  | list ds => cases e; obtain ⟨a, vs, rfl, h1, r⟩ := h.list s; exact .inl ⟨vs, .inl h1, (empty_len r.length).symm⟩
  | tuple ds => cases e; obtain ⟨a, vs, rfl, h1, r⟩ := h.tuple s; exact .inr (.inl ⟨vs, h1, (empty_len r.length).symm⟩)
  | dict ds => cases e; obtain ⟨a, vs, rfl, h1, r⟩ := h.dict s; exact .inr (.inr ⟨vs, h1, (empty_len r.length).symm⟩)
theorem sem_tru {f : M Rs} : ∀ σ H Q, tSemT K (dTru f) σ H Q → tSem K f σ H fun x H' => ∃ k, TruV K x H' k ∧ Q k H' := fun σ H Q ⟨F, ρ, r, ρ', s, e, k⟩ => by
  obtain ⟨ra, ρ1, e1, t1⟩ := bd_ok e
  obtain ⟨d, ρ2, e2, t2⟩ := bd_ok t1
  obtain ⟨e3, e4⟩ := opt_ok t2
  refine ⟨F, ρ, ra, ρ1, s, e1, fun F1 H1 x x1 r1 => ?_⟩
  obtain ⟨z, w⟩ := look_ok x1.st r1 e2
  subst z; subst e4
  exact ⟨r, tru_ok' x1.st.le w e3, k F1 H1 x1⟩
def dNot (c : M Bool) : M Bool := bd c fun b => pr (!b)
def dAnd (a b : M Bool) : M Bool := bd a fun k => if k = true then b else pr false
def dOr (a b : M Bool) : M Bool := bd a fun k => if k = true then pr true else b
/-- a test as a value -/
def dVal (c : M Bool) : M Rs := bd c fun b => pr (.fz (.bool b))
/-- .. by values -/
def dAndV (a b : M Rs) : M Rs := bd a fun r => bd (look r) fun d => bd (opt (tru d)) fun k => if k = true then b else bd (frz r) fun d => pr (.fz d)
def dOrV (a b : M Rs) : M Rs := bd a fun r => bd (look r) fun d => bd (opt (tru d)) fun k => if k = true then bd (frz r) (fun d => pr (.fz d)) else b
def dNotV (a : M Rs) : M Rs := bd a fun r => bd (look r) fun d => bd (opt (tru d)) fun k => pr (.fz (.bool (!k)))
def dIfE (c : M Bool) (a b : M Rs) : M Rs := bd c fun k => if k = true then a else b
/-- a <= b <= c -/
def dChain (g g' : D → D → Option Bool) (fa fb fc : M Rs) : M Rs := bd fa fun ra => bd fb fun rb => bd (look ra) fun da => bd (look rb) fun db => bd (opt (g da db)) fun k =>
  if k = true then bd fc fun rc => bd (look rb) fun db => bd (look rc) fun dc => bd (opt (g' db dc)) fun k => pr (.fz (.bool k)) else pr (.fz (.bool false))
def dChainT (g g' : D → D → Option Bool) (fa fb fc : M Rs) : M Bool := bd fa fun ra => bd fb fun rb => bd (look ra) fun da => bd (look rb) fun db => bd (opt (g da db)) fun k =>
  if k = true then bd fc fun rc => bd (look rb) fun db => bd (look rc) fun dc => opt (g' db dc) else pr false
theorem sem_not {c : M Bool} : ∀ σ H Q, tSemT K (dNot c) σ H Q → tNot (tSemT K c) σ H Q := fun σ H Q ⟨F, ρ, r, ρ', s, e, k⟩ => by
  obtain ⟨b, ρ1, e1, t1⟩ := bd_ok e
  obtain ⟨z1, z2⟩ := pr_ok t1
  subst z1; subst z2
  exact ⟨F, ρ, b, _, s, e1, k⟩
theorem sem_and {a b : M Bool} : ∀ σ H Q, tSemT K (dAnd a b) σ H Q → tAnd (tSemT K a) (tSemT K b) σ H Q := fun σ H Q ⟨F, ρ, r, ρ', s, e, k⟩ => by
  obtain ⟨k1, ρ1, e1, t1⟩ := bd_ok e
  refine ⟨F, ρ, k1, ρ1, s, e1, fun F1 H1 x1 => ?_⟩
  cases k1 with
  | true => exact iteT ⟨F1, ρ1, r, ρ', x1.st, t1, fun F2 H2 x2 => k F2 H2 (x1.trans x2)⟩
  | false => cases t1; exact iteF (k F1 H1 x1)
theorem sem_or {a b : M Bool} : ∀ σ H Q, tSemT K (dOr a b) σ H Q → tOr (tSemT K a) (tSemT K b) σ H Q := fun σ H Q ⟨F, ρ, r, ρ', s, e, k⟩ => by
  obtain ⟨k1, ρ1, e1, t1⟩ := bd_ok e
  refine ⟨F, ρ, k1, ρ1, s, e1, fun F1 H1 x1 => ?_⟩
  cases k1 with
  | true => cases t1; exact iteT (k F1 H1 x1)
  | false => exact iteF ⟨F1, ρ1, r, ρ', x1.st, t1, fun F2 H2 x2 => k F2 H2 (x1.trans x2)⟩
theorem sem_ifE {c : M Bool} {a b : M Rs} : ∀ σ H Q, tSem K (dIfE c a b) σ H Q → tIf (tSemT K c) (tSem K a) (tSem K b) σ H Q := fun σ H Q ⟨F, ρ, r, ρ', s, e, k⟩ => by
  obtain ⟨k1, ρ1, e1, t1⟩ := bd_ok e
  refine ⟨F, ρ, k1, ρ1, s, e1, fun F1 H1 x1 => ?_⟩
  cases k1 with
  | true => exact iteT ⟨F1, ρ1, r, ρ', x1.st, t1, fun F2 H2 v x2 q => k F2 H2 v (x1.trans x2) (q.base fun a z => x1.back z)⟩
  | false => exact iteF ⟨F1, ρ1, r, ρ', x1.st, t1, fun F2 H2 v x2 q => k F2 H2 v (x1.trans x2) (q.base fun a z => x1.back z)⟩
theorem sem_andV {a b : M Rs} : ∀ σ H Q, tSem K (dAndV a b) σ H Q → tAndT K (tSem K a) (tSem K b) σ H Q := fun σ H Q ⟨F, ρ, r, ρ', s, e, k⟩ => by
  obtain ⟨r1, ρ1, e1, t1⟩ := bd_ok e
  obtain ⟨d, ρ2, e2, t2⟩ := bd_ok t1
  obtain ⟨k1, ρ3, e3, t3⟩ := bd_ok t2
  obtain ⟨g3, z3⟩ := opt_ok e3
  refine ⟨F, ρ, r1, ρ1, s, e1, fun F1 H1 x x1 q1 => ?_⟩
  obtain ⟨z, w⟩ := look_ok x1.st q1 e2
  subst z; subst z3
  refine ⟨k1, tru_ok' x1.st.le w g3, ?_⟩
  cases k1 with
  | true => exact iteT ⟨F1, _, r, ρ', x1.st, t3, fun F2 H2 v x2 q => k F2 H2 v (x1.trans x2) (q.base fun a z => x1.back z)⟩
  | false =>
    obtain ⟨d', ρ4, e4, t4⟩ := bd_ok t3
    cases t4
    obtain ⟨F2, x2, rp⟩ := frz_ok x1 q1 e4
    exact iteF (k F2 H1 x x2 rp)
theorem sem_orV {a b : M Rs} : ∀ σ H Q, tSem K (dOrV a b) σ H Q → tOrT K (tSem K a) (tSem K b) σ H Q := fun σ H Q ⟨F, ρ, r, ρ', s, e, k⟩ => by
  obtain ⟨r1, ρ1, e1, t1⟩ := bd_ok e
  obtain ⟨d, ρ2, e2, t2⟩ := bd_ok t1
  obtain ⟨k1, ρ3, e3, t3⟩ := bd_ok t2
  obtain ⟨g3, z3⟩ := opt_ok e3
  refine ⟨F, ρ, r1, ρ1, s, e1, fun F1 H1 x x1 q1 => ?_⟩
  obtain ⟨z, w⟩ := look_ok x1.st q1 e2
  subst z; subst z3
  refine ⟨k1, tru_ok' x1.st.le w g3, ?_⟩
  cases k1 with
  | false => exact iteF ⟨F1, _, r, ρ', x1.st, t3, fun F2 H2 v x2 q => k F2 H2 v (x1.trans x2) (q.base fun a z => x1.back z)⟩
  | true =>
    obtain ⟨d', ρ4, e4, t4⟩ := bd_ok t3
    cases t4
    obtain ⟨F2, x2, rp⟩ := frz_ok x1 q1 e4
    exact iteT (k F2 H1 x x2 rp)
theorem sem_notV {a : M Rs} : ∀ σ H Q, tSem K (dNotV a) σ H Q → tNotT K (tSem K a) σ H Q := fun σ H Q ⟨F, ρ, r, ρ', s, e, k⟩ => by
  obtain ⟨r1, ρ1, e1, t1⟩ := bd_ok e
  obtain ⟨d, ρ2, e2, t2⟩ := bd_ok t1
  obtain ⟨k1, ρ3, e3, t3⟩ := bd_ok t2
  obtain ⟨g3, z3⟩ := opt_ok e3
  refine ⟨F, ρ, r1, ρ1, s, e1, fun F1 H1 x x1 q1 => ?_⟩
  obtain ⟨z, w⟩ := look_ok x1.st q1 e2
  subst z; subst z3
  cases t3
  exact ⟨k1, tru_ok' x1.st.le w g3, k F1 H1 _ x1 (.bl _)⟩
theorem grow_same (x : Ext K F H σ ρ F' H' σ ρ') {F2 H2 : Hp} (g : Grow F' H' F2 H2) : Ext K F H σ ρ F2 H2 σ ρ' := x.trans (x.st.grow g)
theorem sem_chain {g g' : D → D → Option Bool} {fa fb fc : M Rs} : ∀ σ H Q, tSem K (dChain g g' fa fb fc) σ H Q → tChain (rG K (gB g)) (rG K (gB g')) (tSem K fa) (tSem K fb) (tSem K fc) σ H Q := fun σ H Q ⟨F, ρ, r, ρ', s, e, k⟩ => by
  obtain ⟨ra, ρ1, e1, t1⟩ := bd_ok e
  obtain ⟨rb, ρ2, e2, t2⟩ := bd_ok t1
  obtain ⟨da, ρ3, e3, t3⟩ := bd_ok t2
  obtain ⟨db, ρ4, e4, t4⟩ := bd_ok t3
  obtain ⟨k1, ρ5, e5, t5⟩ := bd_ok t4
  obtain ⟨g5, z5⟩ := opt_ok e5
  refine ⟨F, ρ, ra, ρ1, s, e1, fun F1 H1 x x1 r1 => ⟨F1, ρ1, rb, ρ2, x1.st, e2, fun F2 H2 y x2 r2 => ?_⟩⟩
  have r1' := r1.ext x2
  have x12 := x1.trans x2
  obtain ⟨e3', w1⟩ := look_ok x2.st r1' e3
  subst e3'
  obtain ⟨e4', w2⟩ := look_ok x2.st r2 e4
  subst e4'; subst z5
  refine ⟨F2, da, db, .fz (.bool k1), x2.st.le, w1, w2, by unfold gB; rw [g5]; rfl, fun F3 H3 v gr hv => ?_⟩
  have hv : Rp K F3 v (.bool k1) := hv
  cases hv
  refine ⟨k1, rfl, ?_⟩
  have x3 := x2.st.grow gr
  have x13 := x12.trans x3
  cases k1 with
  | false => cases t5; exact iteF (k F3 H3 _ x13 (.bl _))
  | true =>
    obtain ⟨rc, ρ6, e6, t6⟩ := bd_ok t5
    obtain ⟨db2, ρ7, e7, t7⟩ := bd_ok t6
    obtain ⟨dc, ρ8, e8, t8⟩ := bd_ok t7
    obtain ⟨k2, ρ9, e9, t9⟩ := bd_ok t8
    obtain ⟨g9, z9⟩ := opt_ok e9
    refine iteT ⟨F3, _, rc, ρ6, x3.st, e6, fun F4 H4 z x4 r4 => ?_⟩
    obtain ⟨e7', w3⟩ := look_ok x4.st (r2.ext (x3.trans x4)) e7
    subst e7'
    obtain ⟨e8', w4⟩ := look_ok x4.st r4 e8
    subst e8'; subst z9
    cases t9
    refine ⟨F4, db2, dc, .fz (.bool k2), x4.st.le, w3, w4, by unfold gB; rw [g9]; rfl, fun F5 H5 v gr2 hv => ?_⟩
    exact k F5 H5 v ((x13.trans x4).trans (x4.st.grow gr2)) hv
theorem sem_chainT {g g' : D → D → Option Bool} {fa fb fc : M Rs} : ∀ σ H Q, tSemT K (dChainT g g' fa fb fc) σ H Q → tTest (tChain (rG K (gB g)) (rG K (gB g')) (tSem K fa) (tSem K fb) (tSem K fc)) σ H Q := fun σ H Q ⟨F, ρ, r, ρ', s, e, k⟩ => by
  refine sem_chain σ H _ ⟨F, ρ, .fz (.bool r), ρ', s, ?_, fun F' H' v x hv => ?_⟩
  · obtain ⟨ra, ρ1, e1, e⟩ := bd_ok e
    obtain ⟨rb, ρ2, e2, t1⟩ := bd_ok e
    obtain ⟨da, ρ3, e3, t2⟩ := bd_ok t1
    obtain ⟨db, ρ4, e4, t3⟩ := bd_ok t2
    obtain ⟨k1, ρ5, e5, t4⟩ := bd_ok t3
    unfold dChain bd
    simp only [e1, e2, e3, e4, e5]
    cases k1 with
    | false => cases t4; rfl
    | true =>
      obtain ⟨rc, ρ6, e6, t5⟩ := bd_ok t4
      obtain ⟨db2, ρ7, e7, t6⟩ := bd_ok t5
      obtain ⟨dc, ρ8, e8, t7⟩ := bd_ok t6
      simp only [if_true, e6, e7, e8, t7]
      rfl
  · have hv : Rp K F' v (.bool r) := hv
    cases hv
    exact ⟨r, rfl, k F' H' x⟩
section
variable {X : Cx} {a b c : Expr} {rest : List Expr} {pos : Pos} {fa fb fc : M Rs} {ta tb : M Bool}
/-- any expression as a test -/
theorem ttr (ha : PE X a (tSem X.K fa)) (he : ∀ whole, isTrue a X.env whole = (do let v ← whole; standAt a.pos; holding [v] (truthy v)) := by exact fun _ => rfl) : PT X a (tSemT X.K (dTru fa)) := ptWeak (pt_truth ha he) sem_tru
theorem tnot (h : PT X a (tSemT X.K ta)) : PT X (.UnaryOp .Not a pos) (tSemT X.K (dNot ta)) := ptWeak (pt_not h) sem_not
theorem pwWeak {X : Cx} {e : Expr} {t t' : TT} (h : PW X e t) (w : ∀ σ H Q, t' σ H Q → t σ H Q) : PW X e t' := ⟨fun wh pins s σ H Q I q => h.run wh pins s σ H Q I (w σ H Q q)⟩
theorem wand1 (h : PT X a (tSemT X.K ta)) : PW X (.BoolOp .And [a] pos) (tSemT X.K ta) := pw_and1 h
theorem wor1 (h : PT X a (tSemT X.K ta)) : PW X (.BoolOp .Or [a] pos) (tSemT X.K ta) := pw_or1 h
theorem wand (h : PT X a (tSemT X.K ta)) (h2 : PW X (.BoolOp .And (b :: rest) pos) (tSemT X.K tb)) : PW X (.BoolOp .And (a :: b :: rest) pos) (tSemT X.K (dAnd ta tb)) := pwWeak (pw_and h h2) sem_and
theorem wor (h : PT X a (tSemT X.K ta)) (h2 : PW X (.BoolOp .Or (b :: rest) pos) (tSemT X.K tb)) : PW X (.BoolOp .Or (a :: b :: rest) pos) (tSemT X.K (dOr ta tb)) := pwWeak (pw_or h h2) sem_or
theorem twp (h : PW X a (tSemT X.K ta)) : PT X a (tSemT X.K ta) := h.pt
theorem evone {op} (h : PE X a (tSem X.K fa)) : PE X (.BoolOp op [a] pos) (tSem X.K fa) := pe_one h
theorem evand (h : PE X a (tSem X.K fa)) (h2 : PE X (.BoolOp .And (b :: rest) pos) (tSem X.K fb)) : PE X (.BoolOp .And (a :: b :: rest) pos) (tSem X.K (dAndV fa fb)) := peWeak (pe_andT h h2) sem_andV
theorem evor (h : PE X a (tSem X.K fa)) (h2 : PE X (.BoolOp .Or (b :: rest) pos) (tSem X.K fb)) : PE X (.BoolOp .Or (a :: b :: rest) pos) (tSem X.K (dOrV fa fb)) := peWeak (pe_orT h h2) sem_orV
theorem evnot (h : PE X a (tSem X.K fa)) : PE X (.UnaryOp .Not a pos) (tSem X.K (dNotV fa)) := peWeak (pe_notT h) sem_notV
theorem eife (hc : PT X c (tSemT X.K ta)) (ha : PE X a (tSem X.K fa)) (hb : PE X b (tSem X.K fb)) : PE X (.IfExp c a b pos) (tSem X.K (dIfE ta fa fb)) := peWeak (pe_ifExp hc ha hb) sem_ifE
theorem ech {op op' : CmpOp} {g g' : D → D → Option Bool} (ho : OpR X (compareOp op) (rG X.K (gB g))) (ho' : OpR X (compareOp op') (rG X.K (gB g'))) (ha : PE X a (tSem X.K fa)) (hb : PE X b (tSem X.K fb)) (hc : PE X c (tSem X.K fc))
    (hm : lastMarks [op, op'] [b, c] = false := by with_unfolding_all rfl) : PE X (.Compare a [op, op'] [b, c] pos) (tSem X.K (dChain g g' fa fb fc)) := peWeak (pe_chain ho ho' ha hb hc hm) sem_chain
theorem tch {op op' : CmpOp} {g g' : D → D → Option Bool} (ho : OpR X (compareOp op) (rG X.K (gB g))) (ho' : OpR X (compareOp op') (rG X.K (gB g'))) (ha : PE X a (tSem X.K fa)) (hb : PE X b (tSem X.K fb)) (hc : PE X c (tSem X.K fc))
    (hm : lastMarks [op, op'] [b, c] = false := by with_unfolding_all rfl) : PT X (.Compare a [op, op'] [b, c] pos) (tSemT X.K (dChainT g g' fa fb fc)) := ptWeak (pt_chain ho ho' ha hb hc hm) sem_chainT
end
end
end DL

namespace DL
open PySem PySem.Spec PyProof.Rows L2
section
variable {K : PySem.W.Frag} {F H F' H' : Hp} {σ σ' : SS} {ρ ρ' : List Sl}

/-! ### isinstance -/
def tyN : D → String
  | .none => "NoneType"
  | .bool _ => "bool"
  | .int _ => "int"
  | .str _ => "str"
  | .list _ => "list"
  | .tuple _ => "tuple"
  | .dict _ => "dict"
inductive Ty where
  | bool | int | str | list | tuple | dict
def Ty.nm : Ty → String
  | .bool => "bool"
  | .int => "int"
  | .str => "str"
  | .list => "list"
  | .tuple => "tuple"
  | .dict => "dict"
def isT : Ty → D → Bool
  | .bool, .bool _ => true
  | .int, .bool _ => true
  | .int, .int _ => true
  | .str, .str _ => true
  | .list, .list _ => true
  | .tuple, .tuple _ => true
  | .dict, .dict _ => true
  | _, _ => false
theorem kit_isT (T : Ty) (d : D) : PySem.W.kitOne K (.type (tyN d)) (.type T.nm) = some (isT T d) := by
  cases T <;> cases d <;> (refine kit_ty ?_; simp only [tyN, Ty.nm, isT]; decide +kernel)
theorem Vw.ty {v : V} {d : D} (s : Same F H) (h : Vw K F H v d) : TyX K H v (.type (tyN d)) := by
  rcases h with h | ⟨a, rfl, o⟩
  · cases h with
    | non => exact .base .non
    | bl b => exact .base (.bl b)
    | int i => exact .base (.int i)
    | str x => exact .base (.str x)
    | lst h r =>
      rcases rd_mono s h with h | ⟨o, h⟩
      · exact .base (.lst h)
      · exact .base (.frz h)
    | tup h r =>
      rcases sqT_mono s h with (h | ⟨o, h⟩) | ⟨o, its, n, h, hc, _⟩
      · exact .base (.tup h)
      · exact .fTuple h
      · exact .kTuple h hc
    | dct h r => exact .base (.dK (s _ _ h))
  · cases d with
    | list ds => obtain ⟨vs, e, r⟩ := o; exact .base (.lst e)
    | dict ds => obtain ⟨vs, e, r⟩ := o; exact .base (.dK e)
    | _ => exact o.elim
def dIsi (T : Ty) (f : M Rs) : M Rs := bd f fun r => bd (look r) fun d => pr (.fz (.bool (isT T d)))
theorem sem_isi {T : Ty} {f : M Rs} : ∀ σ H Q, tSem K (dIsi T f) σ H Q → tCB (rIsi K) (tCons (tSem K f) (tCons (tC (.ty T.nm)) tNil)) σ H Q := fun σ H Q ⟨F, ρ, res, ρ', s, e, k⟩ => by
  obtain ⟨ra, ρ1, e1, e⟩ := bd_ok e
  obtain ⟨d, ρ2, e2, e⟩ := bd_ok e
  obtain ⟨e3, e4⟩ := pr_ok e
  subst e3; subst e4
  refine ⟨F, ρ, ra, ρ1, s, e1, fun F1 H1 v x1 q1 => ?_⟩
  obtain ⟨z, w⟩ := look_ok x1.st q1 e2
  subst z
  exact ⟨v, .ty T.nm, _, .type T.nm, isT T d, rfl, .ty _, w.ty x1.st.le, kit_isT T d, k F1 H1 _ x1 (.bl _)⟩
section
variable {X : Cx} {a : Expr} {f : M Rs} {pos p1 p2 : Pos}
theorem eisi (T : Ty) {x : Str} (hg : Gl X "isinstance") (hm : X.mg "isinstance" = none) (hg2 : Gl X x) (hm2 : X.mg x = none) (hx : bootBuiltins x = some (.type T.nm)) (ha : PE X a (tSem X.K f)) (hn : x ≠ "__name__" := by decide) (hd : (x == ("__debug__" : Str)) = false := by decide)
    (h0 : starEach [a, .Name x p2] X.env = (false, eval a X.env) :: starEach [.Name x p2] X.env := by rfl) (h1 : starEach [.Name x p2] X.env = (false, eval (.Name x p2) X.env) :: starEach [] X.env := by rfl)
    (hpl : (backTo pos (starEach [.Name x p2] X.env)).any (·.1) = false := by rfl) :
    PE X (.Call (.Name "isinstance" p1) [a, .Name x p2] [] pos) (tSem X.K (dIsi T f)) :=
  peWeak (pe_callB call_isi hg hm (by rfl) (pa_cons ha (pa_cons (pe_bltn hg2 hm2 hx (v := .ty T.nm) rfl hn hd) pa_nil h1) h0) (by decide) (by decide) h0 hpl) sem_isi
end

/-! ### methods that change nothing -/
def dMe (c : D → Bool) (g : D → List D → Option Rs) (fo : M Rs) (fa : M (List Rs)) : M Rs := bd fo fun ro => bd (look ro) fun d0 => if c d0 = true then bd fa fun rs => bd (look ro) fun d => bd (lookA rs) fun ds => opt (g d ds) else fun _ => .bad
theorem sem_me {T : String} {c : D → Bool} {g : D → List D → Option Rs} {fo : M Rs} {fa : M (List Rs)} (hc : ∀ F H v d, Same F H → c d = true → Vw K F H v d → tyV K T v H) :
    ∀ σ H Q, tSem K (dMe c g fo fa) σ H Q → tBM K T (rGM K g) (tSem K fo) (tSemA K fa) σ H Q := fun σ H Q ⟨F, ρ, res, ρ', s, e, k⟩ => by
  obtain ⟨ro, ρ1, e1, e⟩ := bd_ok e
  obtain ⟨d0, ρ2, e2, e⟩ := bd_ok e
  split at e
  case isFalse => cases e
  case isTrue h0 =>
  obtain ⟨rs, ρ3, e3, e⟩ := bd_ok e
  obtain ⟨d, ρ4, e4, e⟩ := bd_ok e
  obtain ⟨ds, ρ5, e5, e⟩ := bd_ok e
  obtain ⟨eg, e6⟩ := opt_ok e
  refine ⟨F, ρ, ro, ρ1, s, e1, fun F1 H1 v x1 q1 => ?_⟩
  obtain ⟨z2, w2⟩ := look_ok x1.st q1 e2
  subst z2
  refine ⟨hc F1 H1 v d0 x1.st.le h0 w2, F1, ρ2, rs, ρ3, x1.st, e3, fun F2 H2 vs x2 q2 => ?_⟩
  obtain ⟨z4, w4⟩ := look_ok x2.st (q1.ext x2) e4
  subst z4
  obtain ⟨z5, w5⟩ := lookA_ok x2.st q2 e5
  subst z5
  subst e6
  refine ⟨F2, d, ds, res, x2.st.le, w4, w5, eg, fun F3 H3 w g hr => ?_⟩
  exact k F3 H3 w ((x1.trans x2).trans (x2.st.grow g)) (x2.st.res g hr fun a z => (x1.trans x2).back z)
def dMe0 (c : D → Bool) (g : D → List D → Option Rs) (fo : M Rs) : M Rs := dMe c g fo dNil
theorem sem_me0 {T : String} {c : D → Bool} {g : D → List D → Option Rs} {fo : M Rs} (hc : ∀ F H v d, Same F H → c d = true → Vw K F H v d → tyV K T v H) :
    ∀ σ H Q, tSem K (dMe0 c g fo) σ H Q → tBM0 K T (rGM K g) (tSem K fo) σ H Q := fun σ H Q q => by
  obtain ⟨F, ρ, r, ρ1, s, e, k⟩ := sem_me (T := T) hc σ H Q q
  refine ⟨F, ρ, r, ρ1, s, e, fun F1 H1 v x1 q1 => ?_⟩
  obtain ⟨ty, F2, ρ2, rs, ρ3, s2, e2, k2⟩ := k F1 H1 v x1 q1
  cases e2
  exact ⟨ty, k2 F2 H1 [] (Ext.refl s2) ⟨rfl, fun i v r h => by simp at h, fun i j a d e h => by simp at h⟩⟩
def isStr : D → Bool
  | .str _ => true
  | _ => false
theorem vy_lst : ∀ F H v d, Same F H → isLst d = true → Vw K F H v d → tyV K "list" v H := fun F H v d s h w => by
  cases d with
  | list ds => obtain ⟨a, vs, rfl, r, _⟩ := w.list s; exact .inl ⟨rfl, vs, .inl r⟩
  | _ => cases h
theorem vy_str : ∀ F H v d, Same F H → isStr d = true → Vw K F H v d → tyV K "str" v H := fun F H v d s h w => by
  cases d with
  | str x => rw [w.str]; rfl
  | _ => cases h
theorem vy_dct : ∀ F H v d, Same F H → isDct d = true → Vw K F H v d → tyV K "dict" v H := fun F H v d s h w => by
  cases d with
  | dict ds => obtain ⟨a, vs, rfl, r, _⟩ := w.dict s; exact .inr (.inr (.inl ⟨rfl, .inl ⟨vs, r⟩⟩))
  | _ => cases h
def gIndex : D → List D → Option Rs
  | .list ds, [d] => if SeqAt.shaped (.list ds) && SeqAt.shaped d then (ds.findIdx? fun z => PyData.eqv z d).map (fun (j : Nat) => Rs.fz (.int (j : Int))) else none
  | _, _ => none
section
variable {X : Cx}
theorem m_index (hu : X.A.units + 65 < cLine) : MtR X "list.index" (rGM X.K gIndex) := by
  intro pins s σ H x xs v us Q I rx rxs ⟨F, dx, ds, res, sm, hx, hxs, e, q⟩
  unfold gIndex at e
  split at e
  · split at e
    case isFalse => cases e
    case isTrue hs =>
      rw [Bool.and_eq_true] at hs
      obtain ⟨j, ej, rfl⟩ := opt_map e
      obtain ⟨y, rfl, hy⟩ := hxs.one
      have ed := hx.dp sm (noD_shaped hs.1)
      obtain ⟨a, vs, rfl, h1, r1⟩ := hx.list sm
      obtain ⟨hj, h2, h3⟩ := List.findIdx?_eq_some_iff_getElem.mp ej
      refine mt_indexD hu pins s σ H _ _ v us Q I rx rxs ⟨a, y, _, _, j, _, rfl, rfl, ed, hy.dp sm (noD_shaped hs.2), hs.1, hs.2, List.getElem?_eq_getElem hj, h2, fun m z hm hz => ?_, q.same sm (.int _)⟩
      have := h3 m hm
      obtain ⟨_, ez⟩ := List.getElem?_eq_some_iff.mp hz
      rw [ez] at this
      exact Bool.eq_false_iff.mpr this
  · cases e
variable {o e : Expr} {es : List Expr} {name : Str} {apos cpos : Pos} {T id : String} {f : M (List Rs)} {fo : M Rs} {c : D → Bool} {g : D → List D → Option Rs}
theorem eme (pa : PlainAttrs T) (slot : Slot T name id) (hty : typeOf (.builtin id) = pure (.type "method_descriptor")) (hm : MtR X id (rGM X.K g)) (hc : ∀ F H v d, Same F H → c d = true → Vw X.K F H v d → tyV X.K T v H) (ho : PE X o (tSem X.K fo)) (ha : PA X (e :: es) (tSemA X.K f))
    (hbase : attributeBase o name X.env (eval o X.env) = eval o X.env := by rfl)
    (hfew : ((backTo cpos (starEach (e :: es) X.env)).all (fun x => !x.1) && (backToKw cpos (keywordEach [] X.env)).all (fun x => x.1.isSome)
      && decide ((e :: es).length + ([] : List Keyword).length + (if ([] : List Keyword).isEmpty then 0 else 1) < 30)) = true := by rfl)
    (hline : (apos.endLine == cpos.line) = true := by rfl) (hs : starEach (e :: es) X.env = (false, eval e X.env) :: starEach es X.env := by rfl) (hplain : (backTo cpos (starEach es X.env)).any (·.1) = false := by rfl) :
    PE X (.Call (.Attribute o name apos) (e :: es) [] cpos) (tSem X.K (dMe c g fo f)) := peWeak (pe_bm pa slot hty hm ho ha hbase hfew hline hs hplain) (sem_me hc)
theorem eme0 (pa : PlainAttrs T) (slot : Slot T name id) (hty : typeOf (.builtin id) = pure (.type "method_descriptor")) (hm : MtR X id (rGM X.K g)) (hc : ∀ F H v d, Same F H → c d = true → Vw X.K F H v d → tyV X.K T v H) (ho : PE X o (tSem X.K fo))
    (hbase : attributeBase o name X.env (eval o X.env) = eval o X.env := by rfl) (hline : (apos.endLine == cpos.line) = true := by rfl) : PE X (.Call (.Attribute o name apos) [] [] cpos) (tSem X.K (dMe0 c g fo)) := peWeak (pe_bm0 pa slot hty hm ho hbase hline) (sem_me0 hc)
end

/-! ### o[i] = v, o[i] op= v, name op= v -/
def gGet : D → D → Option D
  | .list ds, .int i => atI ds i
  | .dict kvs, k => (keyOf k).bind fun k => dget k kvs
  | _, _ => none
def gPut : D → D → D → Option D
  | .list ds, .int i, d => (ixN ds.length i).map fun j => .list (ds.set j d)
  | .dict kvs, k, d => if kvs.length < sizeLine then (keyOf k).map fun k => .dict (dput k d kvs) else none
  | _, _, _ => none
def tgGet (K : PySem.W.Frag) : V → V → Hp → VK → Prop := fun o i H Q => ∃ F a d k dr, Same F H ∧ o = .ref a ∧ Ob K F H a d ∧ i = kV k ∧ gGet d (kD k) = some dr ∧ ∀ v, Rp K F v dr → Q v H
def tgPut (K : PySem.W.Frag) : TSet := fun o i v H Q => ∃ F a d k dv d', Same F H ∧ F a = none ∧ o = .ref a ∧ Ob K F H a d ∧ i = kV k ∧ Rp K F v dv ∧ gPut d (kD k) dv = some d' ∧ ∀ o', Ob K F (upd H a o') a d' → Q (upd H a o')
section
variable {X : Cx}
theorem keyOf_kD (k : Key) : keyOf (kD k) = some k := by cases k <;> rfl
theorem get_ok (hu : X.A.units + 1 < cLine) : PGet X (tgGet X.K) := by
  intro pins s σ H o i ov iv Q I ro ri ⟨F, a, d, k, dr, sm, eo, ob, ei, e, q⟩
  subst eo; subst ei
  cases ro
  unfold gGet at e
  split at e
  · rename_i ds j ek
    cases k with
    | inr x => cases ek
    | inl j' =>
      cases ek
      obtain ⟨vs, hl, ra⟩ := ob
      obtain ⟨z, e2, rz⟩ := rpA_atI ra e
      obtain ⟨t, rfl⟩ := ri
      obtain ⟨its, r, pl, hz⟩ := I.list (.inl (.inl hl) : SqL X.K H a vs)
      obtain ⟨j2, h1, h2, h3, h4, h5⟩ := atI_get e2
      obtain ⟨w, ew, rw'⟩ := r.get h2
      have hl2 := r.length
      have hn := line63
      have fin : EP X pins σ Q w s := ⟨z, H, I, rw', q _ rz⟩
      by_cases h0 : 0 ≤ j
      · have hj : j.toNat = j2 := by
          rw [seqIndex_of h0 h5] at h1
          exact Option.some.inj h1
        exact wpAny_getItem_list pl.isList h0 (by omega) (by rw [hj]; simpa using ew) fin
      · have hj : (j + (its.toArray.size : Int)).toNat = j2 := by
          rw [seqIndex_neg (by omega) h4] at h1
          rw [List.size_toArray, ← hl2]
          exact Option.some.inj h1
        exact wpAny_getItem_list_neg pl.isList (by omega) (by rw [List.size_toArray] <;> omega) (by omega) (by rw [hj]; simpa using ew) fin
  · rename_i kvs
    rw [keyOf_kD] at e
    obtain ⟨vs, hl, ra⟩ := ob
    obtain ⟨z, e2, rz⟩ := (rpK_get ra).1 dr e
    have g : DGet H a (kV k) (some z) := e2 ▸ DGet.k hl
    exact d_getItem hu I g ri fun w' s3 I3 rw' => ⟨z, H, I3, rw', q _ rz⟩
  · cases e
theorem put_ok (hu : X.A.units + 1 < cLine) : PSet X (tgPut X.K) := by
  intro pins s σ H o i v ov iv u Q I ro ri rv ⟨F, a, d, k, dv, d', sm, fn, eo, ob, ei, rp, e, q⟩
  subst eo; subst ei
  unfold gPut at e
  split at e
  · rename_i ds j ek
    cases k with
    | inr x => cases ek
    | inl j' =>
      cases ek
      obtain ⟨vs, hl, ra⟩ := ob
      obtain ⟨j2, e2, rfl⟩ := opt_map e
      exact set_list pins s σ H _ _ v ov iv u Q I ro ri rv ⟨a, vs, j, j2, rfl, rfl, hl, by rw [ra.length]; exact e2, q _ ⟨_, upd_same, RpA.set (i := 0) rp j2 ra⟩⟩
  · split at e
    case isFalse => cases e
    case isTrue hlen =>
    rw [keyOf_kD] at e
    cases e
    obtain ⟨vs, hl, ra⟩ := ob
    exact set_dict hu pins s σ H _ _ v ov iv u Q I ro ri rv ⟨a, _, rfl, DPut.k hl (by rw [ra.length]; exact hlen), q _ ⟨_, upd_same, rpK_put ra rp⟩⟩
  · cases e
end
end
end DL

namespace DL
open PySem PySem.Spec PyProof.Rows L2
section
variable {K : PySem.W.Frag} {F H F' H' : Hp} {σ σ' : SS} {ρ ρ' : List Sl} {P : Nat → Prop}

/-! ### stores at items -/
def dKey (f : M Rs) : M Key := bd f fun r => bd (look r) fun d => opt (keyOf d)
/-- x[i] = e -/
def dPut (i : Nat) (fi fe : M Rs) : DS := fun ρ => match bd fe frz ρ with
  | .bad => .bad
  | .ok dv ρ1 => match ρ1[i]? with
    | some (.ow _) => match dKey fi ρ1 with
      | .bad => .bad
      | .ok k ρ2 => match ρ2[i]? with
        | some (.ow d) => match gPut d (kD k) dv with
          | some d' => .nx (ρ2.set i (.ow d'))
          | none => .bad
        | _ => .bad
    | _ => .bad
/-- x[i] op= e -/
def dAugS (g : G2) (i : Nat) (fi fe : M Rs) : DS := fun ρ => match ρ[i]? with
  | some (.ow _) => match dKey fi ρ with
    | .bad => .bad
    | .ok k ρ1 => match ρ1[i]? with
      | some (.ow d1) => match gGet d1 (kD k) with
        | none => .bad
        | some old => match bd fe look ρ1 with
          | .bad => .bad
          | .ok dv ρ2 => match g old dv with
            | some (.fz dn) => match ρ2[i]? with
              | some (.ow d2) => match gPut d2 (kD k) dn with
                | some d' => .nx (ρ2.set i (.ow d'))
                | none => .bad
              | _ => .bad
            | _ => .bad
      | _ => .bad
  | _ => .bad
/-- x op= e -/
def dAug (g : G2) (i : Nat) (fe : M Rs) : DS := fun ρ => match ρ[i]? with
  | some (.fz d) => match bd fe look ρ with
    | .bad => .bad
    | .ok dv ρ1 => match g d dv with
      | some (.fz dn) => if i < ρ1.length then .nx (ρ1.set i (.fz dn)) else .bad
      | _ => .bad
  | _ => .bad
theorem key_ok {f : M Rs} {k : Key} (h : dKey f ρ = .ok k ρ') (s : Sta K F H σ ρ) : ∃ r ρ1, f ρ = .ok r ρ1 ∧ ∀ F' H' v, Sta K F' H' σ ρ1 → RsR K H F' H' σ ρ1 v r → ρ' = ρ1 ∧ v = kV k := by
  obtain ⟨r, ρ1, e1, e⟩ := bd_ok h
  obtain ⟨d, ρ2, e2, e⟩ := bd_ok e
  obtain ⟨e3, e4⟩ := opt_ok e
  refine ⟨r, ρ1, e1, fun F' H' v s' q => ?_⟩
  obtain ⟨z, w⟩ := look_ok s' q e2
  subst z
  exact ⟨e4.symm ▸ rfl, w.key e3⟩
theorem sem_put {i : Nat} {fi fe : M Rs} : ∀ D σ H, tSemS K P (dPut i fi fe) D σ H → tAsg (tSem K fe) (L2.gSub (tVar i) (tSem K fi) (tgPut K)) D σ H := fun D σ H ⟨F, ρ, s, h⟩ => by
  unfold dPut at h
  cases e : bd fe frz ρ with
  | bad => rw [e] at h; exact h.elim
  | ok dv ρ1 =>
    rw [e] at h
    obtain ⟨r, ρ0, e1, e2⟩ := bd_ok e
    simp only at h
    cases q0 : ρ1[i]? with
    | none => simp only [q0] at h; exact h.elim
    | some sl =>
      cases sl with
      | em => simp only [q0] at h; exact h.elim
      | fz _ => simp only [q0] at h; exact h.elim
      | lk _ => simp only [q0] at h; exact h.elim
      | ow d0 =>
        simp only [q0] at h
        cases ek : dKey fi ρ1 with
        | bad => simp only [ek] at h; exact h.elim
        | ok k ρ2 =>
          simp only [ek] at h
          cases q1 : ρ2[i]? with
          | none => simp only [q1] at h; exact h.elim
          | some sl2 =>
            cases sl2 with
            | em => simp only [q1] at h; exact h.elim
            | fz _ => simp only [q1] at h; exact h.elim
            | lk _ => simp only [q1] at h; exact h.elim
            | ow d =>
              simp only [q1] at h
              cases eg : gPut d (kD k) dv with
              | none => simp only [eg] at h; exact h.elim
              | some d' =>
                simp only [eg] at h
                refine ⟨F, ρ, r, ρ0, s, e1, fun F1 H1 v x1 q => ?_⟩
                obtain ⟨F2, x2, rp⟩ := frz_ok x1 q e2
                obtain ⟨a, ea, _, _⟩ := x2.st.sl i _ q0
                obtain ⟨rk, ρ3, e3, hk⟩ := key_ok ek x2.st
                refine ⟨.ref a, ea, F2, ρ1, rk, ρ3, x2.st, e3, fun F3 H3 w x3 q3 => ?_⟩
                obtain ⟨z, ew⟩ := hk F3 H3 w x3.st q3
                subst z; subst ew
                obtain ⟨b, eb, hf, ho⟩ := x3.st.sl i _ q1
                rw [ea] at eb; cases eb
                refine ⟨F3, a, d, k, dv, d', x3.st.le, hf, rfl, ho, rfl, rp.mono x3.fr, eg, fun o' ob => ?_⟩
                exact h F3 _ σ ((x2.trans x3).updSlot ea q1 ob) Prot.refl
theorem sem_augS {g : G2} {i : Nat} {fi fe : M Rs} : ∀ D σ H, tSemS K P (dAugS g i fi fe) D σ H → tAugS (tVar i) (tSem K fi) (tSem K fe) (tgGet K) (rG K g) (tgPut K) D σ H := fun D σ H ⟨F, ρ, s, h⟩ => by
  unfold dAugS at h
  cases q0 : ρ[i]? with
  | none => simp only [q0] at h; exact h.elim
  | some sl =>
    cases sl with
    | em => simp only [q0] at h; exact h.elim
    | fz _ => simp only [q0] at h; exact h.elim
    | lk _ => simp only [q0] at h; exact h.elim
    | ow d0 =>
      simp only [q0] at h
      cases ek : dKey fi ρ with
      | bad => simp only [ek] at h; exact h.elim
      | ok k ρ1 =>
        simp only [ek] at h
        cases q1 : ρ1[i]? with
        | none => simp only [q1] at h; exact h.elim
        | some sl2 =>
          cases sl2 with
          | em => simp only [q1] at h; exact h.elim
          | fz _ => simp only [q1] at h; exact h.elim
          | lk _ => simp only [q1] at h; exact h.elim
          | ow d1 =>
            simp only [q1] at h
            cases eg : gGet d1 (kD k) with
            | none => simp only [eg] at h; exact h.elim
            | some old =>
              simp only [eg] at h
              cases ev : bd fe look ρ1 with
              | bad => simp only [ev] at h; exact h.elim
              | ok dv ρ2 =>
                simp only [ev] at h
                obtain ⟨r, ρ0, e1, e2⟩ := bd_ok ev
                cases eo : g old dv with
                | none => simp only [eo] at h; exact h.elim
                | some rs =>
                  cases rs with
                  | ow _ => simp only [eo] at h; exact h.elim
                  | nm _ => simp only [eo] at h; exact h.elim
                  | fz dn =>
                    simp only [eo] at h
                    cases q2 : ρ2[i]? with
                    | none => simp only [q2] at h; exact h.elim
                    | some sl3 =>
                      cases sl3 with
                      | em => simp only [q2] at h; exact h.elim
                      | fz _ => simp only [q2] at h; exact h.elim
                      | lk _ => simp only [q2] at h; exact h.elim
                      | ow d2 =>
                        simp only [q2] at h
                        cases ep : gPut d2 (kD k) dn with
                        | none => simp only [ep] at h; exact h.elim
                        | some d' =>
                          simp only [ep] at h
                          obtain ⟨a, ea, _, _⟩ := s.sl i _ q0
                          obtain ⟨rk, ρ3, e3, hk⟩ := key_ok ek s
                          refine ⟨.ref a, ea, F, ρ, rk, ρ3, s, e3, fun F1 H1 w x1 q3 => ?_⟩
                          obtain ⟨z, ew⟩ := hk F1 H1 w x1.st q3
                          subst z; subst ew
                          obtain ⟨b, eb, hf, ho⟩ := x1.st.sl i _ q1
                          rw [ea] at eb; cases eb
                          refine ⟨F1, a, d1, k, old, x1.st.le, rfl, ho, rfl, eg, fun x rx => ⟨F1, ρ1, r, ρ0, x1.st, e1, fun F2 H2 y x2 ry => ?_⟩⟩
                          obtain ⟨z, wy⟩ := look_ok x2.st ry e2
                          subst z
                          refine ⟨F2, old, dv, .fz dn, x2.st.le, .inl (rx.mono x2.fr), wy, eo, fun F3 H3 nv gr hr => ?_⟩
                          have x3 := x2.st.grow gr
                          have xx := (x1.trans x2).trans x3
                          obtain ⟨b, eb, hf3, ho3⟩ := xx.st.sl i _ q2
                          rw [ea] at eb; cases eb
                          exact ⟨F3, a, d2, k, dn, d', xx.st.le, hf3, rfl, ho3, rfl, hr, ep, fun o' ob => h F3 _ σ (xx.updSlot ea q2 ob) Prot.refl⟩
theorem sem_aug {g : G2} {i : Nat} {fe : M Rs} (hP : ¬ P i) : ∀ D σ H, tSemS K P (dAug g i fe) D σ H → tAug i (tSem K fe) (rG K g) D σ H := fun D σ H ⟨F, ρ, s, h⟩ => by
  unfold dAug at h
  cases q0 : ρ[i]? with
  | none => simp only [q0] at h; exact h.elim
  | some sl =>
    cases sl with
    | em => simp only [q0] at h; exact h.elim
    | ow _ => simp only [q0] at h; exact h.elim
    | lk _ => simp only [q0] at h; exact h.elim
    | fz d =>
      simp only [q0] at h
      cases ev : bd fe look ρ with
      | bad => simp only [ev] at h; exact h.elim
      | ok dv ρ1 =>
        simp only [ev] at h
        obtain ⟨r, ρ0, e1, e2⟩ := bd_ok ev
        cases eo : g d dv with
        | none => simp only [eo] at h; exact h.elim
        | some rs =>
          cases rs with
          | ow _ => simp only [eo] at h; exact h.elim
          | nm _ => simp only [eo] at h; exact h.elim
          | fz dn =>
            simp only [eo] at h
            split at h
            case isFalse => exact h.elim
            case isTrue hi =>
            obtain ⟨x, ex, rx⟩ := s.sl i _ q0
            refine ⟨x, ex, F, ρ, r, ρ0, s, e1, fun F1 H1 y x1 ry => ?_⟩
            obtain ⟨z, wy⟩ := look_ok x1.st ry e2
            subst z
            refine ⟨F1, d, dv, .fz dn, x1.st.le, .inl (rx.mono x1.fr), wy, eo, fun F2 H2 nv gr hr => ?_⟩
            exact h F2 H2 _ ((x1.trans (x1.st.grow gr)).setSlot hi (.inl ⟨dn, rfl, hr⟩)) (prot_set hP)
def gIAdd : G2
  | .int i, .int j => some (.fz (.int (i + j)))
  | .str i, .str j => if i.length + j.length ≤ sizeLine then some (.fz (.str (i ++ j))) else none
  | _, _ => none
def gISub : G2
  | .int i, .int j => some (.fz (.int (i - j)))
  | _, _ => none
section
variable {X : Cx} {o e ie : Expr} {fi fe : M Rs} {pos tpos : Pos} {i : Nat}
theorem pAdd : PIp X .Add (rG X.K gIAdd) := by
  intro pins s σ H x y v u Q I rx ry ⟨F, dx, dy, res, sm, hx, hy, e, q⟩
  unfold gIAdd at e
  split at e
  · cases e
    exact ip_add pins s σ H x y v u Q I rx ry ⟨_, _, hx.int, hy.int, q.same sm (.int _)⟩
  · split at e
    case isFalse => cases e
    case isTrue hl => cases e; exact iop_add_str pins s σ H x y v u Q I rx ry ⟨_, _, hx.str, hy.str, hl, q.same sm (.str _)⟩
  · cases e
theorem pSub : PIp X .Sub (rG X.K gISub) := by
  intro pins s σ H x y v u Q I rx ry ⟨F, dx, dy, res, sm, hx, hy, e, q⟩
  unfold gISub at e
  split at e
  · cases e
    exact ip_sub pins s σ H x y v u Q I rx ry ⟨_, _, hx.int, hy.int, q.same sm (.int _)⟩
  · cases e
theorem sput (hu : X.A.units + 1 < cLine) (ho : PE X o (tVar i)) (hi : PE X ie (tSem X.K fi)) (he : PE X e (tSem X.K fe))
    (ha : ∀ v, assign (.Subscript o ie tpos) X.env v = (do
      let ov ← holding [v] (eval o X.env)
      let iv ← holding [v, ov] (eval ie X.env)
      standAt tpos
      holding [v, ov, iv] (setItem ov iv v)
      release [v, ov, iv] []) := by intro _; rfl)
    (hs : swapsWithSole [.Subscript o ie tpos] e pos.line X.env = pure false := by rfl) (hw : swappedStores [.Subscript o ie tpos] e X.env = pure none := by rfl)
    (h1 : (assignEach [.Subscript o ie tpos] X.env).map (·.2) = [assign (.Subscript o ie tpos) X.env] := by rfl) : PS X (.Assign [.Subscript o ie tpos] e pos) (tSemS X.K P (dPut i fi fe)) := psWeak (ps_asg he (pg_sub ho hi (put_ok hu) ha) hs hw h1) sem_put
theorem saugs {op : Operator} {g : G2} (hu : X.A.units + 1 < cLine) (hp : PIp X op (rG X.K g)) (ho : PE X o (tVar i)) (hi : PE X ie (tSem X.K fi)) (he : PE X e (tSem X.K fe))
    (ha : ∀ ov iv new, augStore ie ov iv new = (do holding [new, ov, iv] (setItem ov iv new); release [new, ov, iv] []; pure .next) := by intros; rfl) : PS X (.AugAssign (.Subscript o ie tpos) op e pos) (tSemS X.K P (dAugS g i fi fe)) :=
  psWeak (ps_augS ho hi (get_ok hu) he hp (put_ok hu) ha) sem_augS
theorem saug {op : Operator} {g : G2} {x : Str} {pos' : Pos} (hP : ¬ P i) (hp : PIp X op (rG X.K g)) (hN : X.N.Nodup) (hi : X.N[i]? = some x) (hx : Loc X.env.scope x) (he : PE X e (tSem X.K fe)) (hf : X.fn x = true ∨ X.env.scope.names.lookup x = some .local := by first | exact .inl rfl | exact .inr rfl | assumption) :
    PS X (.AugAssign (.Name x pos') op e pos) (tSemS X.K P (dAug g i fe)) := psWeak (ps_aug hN hi hx he hp hf) (sem_aug hP)
end

/-! ### dicts laid -/
theorem Ext.updNew {F₀ H₀ : Hp} {σ₀ : SS} {ρ₀ : List Sl} {a : Addr} {o : HO} (x : Ext K F₀ H₀ σ₀ ρ₀ F H σ ρ) (h0 : H₀ a = none) (hf : F a = none) (hn : ∀ i, ¬ HdAt σ ρ i a) : Ext K F₀ H₀ σ₀ ρ₀ F (upd H a o) σ ρ := by
  refine ⟨⟨fun b u e => ?_, x.st.len, fun j s q => ?_, x.st.dj⟩, x.fr, fun b u e n => ?_, x.nf, fun b e => ?_, x.ow, x.lk⟩
  · have hb : b ≠ a := fun z => by subst z; rw [hf] at e; cases e
    rw [upd_ne hb]; exact x.st.le b u e
  · have z := x.st.sl j s q
    cases s with
    | em => trivial
    | fz d => exact z
    | ow d =>
      obtain ⟨b, e1, e2, e3⟩ := z
      have hb : b ≠ a := fun z => by subst z; exact hn j (.inl ⟨e1, d, q⟩)
      exact ⟨b, e1, e2, e3.mono (Same.refl _) (upd_ne hb)⟩
    | lk d =>
      obtain ⟨b, e1, e2, e3⟩ := z
      have hb : b ≠ a := fun z => by subst z; exact hn j (.inr ⟨e1, d, q⟩)
      exact ⟨b, e1, e2, e3.mono (Same.refl _) (upd_ne hb)⟩
  · have hb : b ≠ a := fun z => by subst z; rw [h0] at e; cases e
    rw [upd_ne hb]; exact x.kp b u e n
  · by_cases hb : b = a
    · subst hb; rw [upd_same]; exact fun z => nomatch z
    · rw [upd_ne hb]; exact x.gr b e
def dPairs : List (M Rs × M Rs) → M (List (Key × Rs))
  | [] => pr []
  | p :: ps => bd (dKey p.1) fun k => bd p.2 fun r => bd (dPairs ps) fun rs => pr ((k, r) :: rs)
def dDisp (ps : List (M Rs × M Rs)) : M Rs := bd (dPairs ps) fun krs => bd (frzA (krs.map (·.2))) fun ds => if krs.length ≤ 15 then pr (.ow (.dict ((List.zip (krs.map (·.1)) ds).foldl (fun acc kv => dput kv.1 kv.2 acc) []))) else fun _ => .bad
theorem RsA.cons {H₀ : Hp} {v : V} {r : Rs} {vs : List V} {rs : List Rs} {F1 H1 : Hp} {ρ1 : List Sl} (q1 : RsR K H₀ F1 H1 σ ρ1 v r) (x2 : Ext K F1 H1 σ ρ1 F H σ ρ) (q2 : RsA K H1 F H σ ρ vs rs) (b : ∀ a, H1 a = none → H₀ a = none) : RsA K H₀ F H σ ρ (v :: vs) (r :: rs) := by
  refine ⟨by rw [List.length_cons, List.length_cons, q2.len], fun i w r' h1 h2 => ?_, fun i j a d e h1 h2 h3 h4 => ?_⟩
  · cases i with
    | zero => simp at h1 h2; subst h1; subst h2; exact q1.ext x2
    | succ i => exact (q2.at_ i w r' (by simpa using h1) (by simpa using h2)).base b
  · have cross : ∀ (j : Nat) (a : Addr) (d e : D), v = .ref a → r = .ow d → vs[j]? = some (.ref a) → rs[j]? = some (.ow e) → False := fun j' a' d' e' g1 g2 g3 g4 => by
      rw [g2] at q1
      obtain ⟨b, eb, _, _, ob, _⟩ := q1
      obtain ⟨c, ec, hc, _⟩ := q2.at_ j' _ _ g3 g4
      rw [g1] at eb
      cases eb
      cases ec
      exact ob.ne hc
    cases i with
    | zero =>
      cases j with
      | zero => rfl
      | succ j => simp at h1 h2; exact (cross j a d e h1 h2 (by simpa using h3) (by simpa using h4)).elim
    | succ i =>
      cases j with
      | zero => simp at h3 h4; exact (cross i a e d h3 h4 (by simpa using h1) (by simpa using h2)).elim
      | succ j => rw [q2.dj i j a d e (by simpa using h1) (by simpa using h2) (by simpa using h3) (by simpa using h4)]
theorem sem_pairs : ∀ {ps : List (M Rs × M Rs)} {F H : Hp} {ρ ρ' : List Sl} {krs : List (Key × Rs)} {Q : List (V × V) → Hp → Prop}, Sta K F H σ ρ → dPairs ps ρ = .ok krs ρ' →
    (∀ F' H' vs, Ext K F H σ ρ F' H' σ ρ' → RsA K H F' H' σ ρ' vs (krs.map (·.2)) → Q (List.zip (krs.map fun p => kV p.1) vs) H') → tPairs (ps.map fun p => (tSem K p.1, tSem K p.2)) σ H Q
  | [], F, H, ρ, ρ', krs, Q, s, e, k => by
    cases e
    exact k F H [] (Ext.refl s) ⟨rfl, fun i v r h => by simp at h, fun i j a d e h => by simp at h⟩
  | p :: ps, F, H, ρ, ρ', krs, Q, s, e, k => by
    obtain ⟨kk, ρ1, e1, e⟩ := bd_ok e
    obtain ⟨r, ρ2, e2, e⟩ := bd_ok e
    obtain ⟨rs, ρ3, e3, e⟩ := bd_ok e
    obtain ⟨e4, e5⟩ := pr_ok e
    subst e4; subst e5
    obtain ⟨rk, ρ4, e6, hk⟩ := key_ok e1 s
    refine ⟨F, ρ, rk, ρ4, s, e6, fun F1 H1 w x1 q1 => ?_⟩
    obtain ⟨z, ew⟩ := hk F1 H1 w x1.st q1
    subst z; subst ew
    refine ⟨F1, ρ1, r, ρ2, x1.st, e2, fun F2 H2 y x2 q2 => sem_pairs x2.st e3 fun F3 H3 vs x3 q3 => ?_⟩
    exact k F3 H3 (y :: vs) ((x1.trans x2).trans x3) (RsA.cons (q2.base fun a z => x1.back z) x3 q3 fun a z => (x1.trans x2).back z)
theorem fold_put {kvs : List (Key × V)} {ds : List (Key × D)} (h : Paired (fun p q => p.1 = q.1 ∧ Rp K F p.2 q.2) kvs ds) : ∀ {acc : List (Key × V)} {dac : List (D × D)}, RpK K F acc dac → RpK K F (kvs.foldl (fun acc kv => putK acc kv.1 kv.2) acc) (ds.foldl (fun acc kv => dput kv.1 kv.2 acc) dac) := by
  induction h with
  | nil => intro _ _ h; exact h
  | cons a b ih =>
    intro acc dac q
    obtain ⟨a1, a2⟩ := a
    refine ih ?_
    show RpK K F (putK acc _ _) (dput _ _ dac)
    rw [← a1]
    exact rpK_put q a2
theorem zip_pair : ∀ {ks : List Key} {vs : List V} {ds : List D}, RpA K F vs ds → Paired (fun (p : Key × V) (q : Key × D) => p.1 = q.1 ∧ Rp K F p.2 q.2) (ks.zip vs) (ks.zip ds)
  | [], _, _, _ => .nil
  | _ :: _, _, _, .nil => .nil
  | k :: ks, _, _, .cons r t => .cons ⟨rfl, r⟩ (zip_pair t)
theorem zip_kV : ∀ (krs : List (Key × Rs)) (vs : List V), List.zip (krs.map fun p => kV p.1) vs = (List.zip (krs.map (·.1)) vs).map fun kv => (kV kv.1, kv.2)
  | [], _ => rfl
  | _ :: _, [] => rfl
  | p :: r, v :: vs => by
    rw [List.map_cons, List.map_cons, List.zip_cons_cons, List.zip_cons_cons, List.map_cons, zip_kV r vs]
theorem sem_disp {ps : List (M Rs × M Rs)} : ∀ σ H Q, tSem K (dDisp ps) σ H Q → tDisp (ps.map fun p => (tSem K p.1, tSem K p.2)) σ H Q := fun σ H Q ⟨F, ρ, res, ρ', s, e, k⟩ p hp => by
  obtain ⟨krs, ρ1, e1, e⟩ := bd_ok e
  obtain ⟨ds, ρ2, e2, e⟩ := bd_ok e
  split at e
  case isFalse => cases e
  case isTrue h15 =>
  obtain ⟨e3, e4⟩ := pr_ok e
  subst e3; subst e4
  have fp : F p = none := s.le.free hp
  have x0 : Ext K F H σ ρ F (upd H p (.dK [])) σ ρ := s.grow ⟨Same.refl _, s.le.trans (same_upd hp), same_upd hp, fun _ _ e => e⟩
  refine sem_pairs x0.st e1 fun F1 H1 vs x1 q1 => ?_
  have nh : ∀ i, ¬ HdAt σ ρ i p := fun i z => by
    obtain ⟨_, d, o⟩ := s.held z
    exact o.ne hp
  have hp1 : H1 p = some (.dK []) := x1.kp p _ upd_same fun i z => nh i (.inl z)
  obtain ⟨F2, x2, rpa, sm2⟩ := frzA_ok x1 q1 e2
  have xx := x0.trans x2
  have fp2 : F2 p = none := x2.nf p (by rw [upd_same]; exact fun z => nomatch z) nh fp
  have nh2 : ∀ i, ¬ HdAt σ ρ' i p := fun i z => by
    rcases x2.hd z with y | y
    · exact nh i y
    · rw [upd_same] at y; cases y
  refine ⟨hp1, List.zip (krs.map (·.1)) vs, zip_kV krs vs, ?_, ?_⟩
  · rw [List.length_zip, List.length_map]; omega
  · refine k F2 _ _ (xx.updNew hp fp2 nh2) ⟨p, rfl, hp, fp2, ⟨_, upd_same, ?_⟩, nh2⟩
    exact fold_put (zip_pair rpa) .nil
def dNew : M Rs := pr (.ow (.dict []))
theorem sem_new : ∀ σ H Q, tSem K dNew σ H Q → tDNewK σ H Q := fun σ H Q ⟨F, ρ, res, ρ', s, e, k⟩ p hp => by
  obtain ⟨e3, e4⟩ := pr_ok e
  subst e3; subst e4
  have x0 : Ext K F H σ ρ' F (upd H p (.dK [])) σ ρ' := s.grow ⟨Same.refl _, s.le.trans (same_upd hp), same_upd hp, fun _ _ e => e⟩
  have nh : ∀ i, ¬ HdAt σ ρ' i p := fun i z => by
    obtain ⟨_, d, o⟩ := s.held z
    exact o.ne hp
  exact k F _ _ x0 ⟨p, rfl, hp, s.le.free hp, ⟨_, upd_same, .nil⟩, nh⟩
section
variable {X : Cx} {pos : Pos}
theorem edn : PE X (.Dict [] [] pos) (tSem X.K dNew) := peWeak pe_dnewK sem_new
theorem edi {keys : List (Option Expr)} {values : List Expr} {ps : List (M Rs × M Rs)} (h : PPs X pos keys values (ps.map fun p => (tSem X.K p.1, tSem X.K p.2))) (hall : keys.all (·.isSome) = true := by rfl) (hl : keys.length = values.length := by rfl) (h0 : keys ≠ [] := by exact fun z => nomatch z)
    (h15 : keys.length ≤ 15 := by decide) : PE X (.Dict keys values pos) (tSem X.K (dDisp ps)) := peWeak (pe_disp h hall hl h0 h15) sem_disp
end
end
end DL

namespace DL
open PySem PySem.Spec PyProof.Rows L2
theorem u1 {k : Nat} {A : Around} (r : Room k A) : A.units + 1 < cLine := by have := r.un; omega
theorem u64 {k : Nat} {A : Around} (r : Room k A) : A.units + 64 < cLine := by have := r.un; omega
theorem u65 {k : Nat} {A : Around} (r : Room k A) : A.units + 65 < cLine := by have := r.un; omega
theorem fnok_bad {P : Program} {w : World} {K : PySem.W.Frag} {mg : Str → Option Value} {base : Heap} {CX : CXT} {k : Nat} {f : Addr} {fd : FuncData} {ps : List Str} {n : Nat} : FnOk P w K mg base CX k f fd ps (spD K n (fun _ => .bad)) := by
  refine ⟨fun vs H Q E h => ?_, fun A outer s H args us vs Q E hr he hb hv hs => ?_⟩
  · obtain ⟨_, F, ρ, r, ρ', s, e, _⟩ := h; cases e
  · obtain ⟨_, F, ρ, r, ρ', s, e, _⟩ := hs; cases e
section
variable {K : PySem.W.Frag} {F H F' H' : Hp} {σ σ' : SS} {ρ ρ' : List Sl} {P : Nat → Prop}
theorem sem_par3 {i j l : Nat} {f : M (List Rs)} (hi : ¬ P i) (hj : ¬ P j) (hl : ¬ P l) : ∀ D σ H, tSemS K P (dPar [i, j, l] f) D σ H → tPar3 i j l (tSemA K f) D σ H := fun D σ H ⟨F, ρ, s, h⟩ => by
  unfold dPar at h
  cases e : bd f (argSA ([i, j, l].map fun _ => false)) ρ with
  | bad => rw [e] at h; exact h.elim
  | ok rs ρ1 =>
    rw [e] at h
    cases e2 : setQs [i, j, l] rs ρ1 with
    | none => simp only [e2] at h; exact h.elim
    | some ρ2 =>
      simp only [e2] at h
      obtain ⟨r, ρ3, e3, e4⟩ := bd_ok e
      refine ⟨F, ρ, r, ρ3, s, e3, fun F' H' vs x q => ?_⟩
      obtain ⟨F2, x2, q2, _⟩ := argSA_ok x q e4
      obtain ⟨g, x3, p⟩ := setQs_ok (P := P) (fun k hk => by
        simp only [List.mem_cons, List.not_mem_nil, or_false] at hk
        rcases hk with z | z | z <;> rw [z] <;> assumption) x2 q2 e2
      match vs, g with
      | [u, v, w], _ => exact ⟨u, v, w, rfl, h F2 H' _ x3 p⟩
theorem spar3 {X : Cx} {i j l : Nat} {x y z : Str} {a b c : Expr} {fa : M (List Rs)} {px py pz pt pos : Pos} {kt k2 pt2} (h1 : ¬ P i) (h2 : ¬ P j) (h3 : ¬ P l) (hc : X.calm = true) (hN : X.N.Nodup) (hi : X.N[i]? = some x) (hj : X.N[j]? = some y) (hl : X.N[l]? = some z) (hij : i ≠ j) (hil : i ≠ l) (hjl : j ≠ l)
    (hx : X.env.scope.names.lookup x = some .local) (hy : X.env.scope.names.lookup y = some .local) (hz : X.env.scope.names.lookup z = some .local) (ha : PA X [a, b, c] (tSemA X.K fa))
    (hw : swappedStores [.Tuple [.Name x px, .Name y py, .Name z pz] kt pt] (.Tuple [a, b, c] k2 pt2) X.env = pure (some [x, y, z]) := by rfl)
    (hs : swapsWithSole [.Tuple [.Name x px, .Name y py, .Name z pz] kt pt] (.Tuple [a, b, c] k2 pt2) pos.line X.env = pure false := by rfl) :
    PS X (.Assign [.Tuple [.Name x px, .Name y py, .Name z pz] kt pt] (.Tuple [a, b, c] k2 pt2) pos) (tSemS X.K P (dPar [i, j, l] fa)) := psWeak (ps_par3 hc hN hi hj hl hij hil hjl hx hy hz ha hw hs) (sem_par3 h1 h2 h3)
end
end DL

/-! DL15: reckoning with the combinators on plain data, no program in sight -/
namespace DL
open PySem L2
/-- what simp is not to go into -/
inductive Tag {α : Type} (a : α) : Type where
  | mk
def vR {α : Type} (r : R α) (Q : α → List Sl → Prop) : Prop := match r with
  | .ok a ρ => Q a ρ
  | .bad => False
def vM {α : Type} (m : M α) (ρ : List Sl) (Q : α → List Sl → Prop) : Prop := vR (m ρ) Q
def vO {α : Type} (o : Option α) (Q : α → Prop) : Prop := match o with
  | some a => Q a
  | none => False
def vS (s : DS) (ρ : List Sl) (N : List Sl → Prop) (T : Rs → List Sl → Prop) (B C : List Sl → Prop) : Prop := match s ρ with
  | .nx ρ' => N ρ'
  | .rt r ρ' => T r ρ'
  | .bk ρ' => B ρ'
  | .ct ρ' => C ρ'
  | .bad => False
def nope {α : Type} : α → Prop := fun _ => False
theorem vR_ok {α : Type} {a : α} {ρ : List Sl} {Q : α → List Sl → Prop} : vR (.ok a ρ) Q = Q a ρ := rfl
theorem vM_iff {α : Type} {m : M α} {ρ : List Sl} {Q : α → List Sl → Prop} : vM m ρ Q ↔ ∃ a ρ', m ρ = .ok a ρ' ∧ Q a ρ' := by
  unfold vM vR
  constructor
  · intro h
    cases e : m ρ with
    | ok a ρ' => rw [e] at h; exact ⟨a, ρ', rfl, h⟩
    | bad => rw [e] at h; exact h.elim
  · rintro ⟨a, ρ', e, h⟩; rw [e]; exact h
theorem vM_eq {α : Type} {m : M α} {ρ ρ' : List Sl} {a : α} (h : vM m ρ fun b ρ1 => b = a ∧ ρ1 = ρ') : m ρ = .ok a ρ' := by
  obtain ⟨b, ρ1, e, rfl, rfl⟩ := vM_iff.mp h; exact e
theorem vM_mono {α : Type} {m : M α} {ρ : List Sl} {Q Q' : α → List Sl → Prop} (h : vM m ρ Q) (i : ∀ a ρ', Q a ρ' → Q' a ρ') : vM m ρ Q' := by
  obtain ⟨a, ρ', e, h⟩ := vM_iff.mp h; exact vM_iff.mpr ⟨a, ρ', e, i _ _ h⟩
theorem vS_mono {s : DS} {ρ : List Sl} {N N' : List Sl → Prop} {T T' : Rs → List Sl → Prop} {B B' C C' : List Sl → Prop} (h : vS s ρ N T B C) (n : ∀ ρ, N ρ → N' ρ) (t : ∀ r ρ, T r ρ → T' r ρ) (b : ∀ ρ, B ρ → B' ρ) (c : ∀ ρ, C ρ → C' ρ) : vS s ρ N' T' B' C' := by
  unfold vS at h ⊢
  cases e : s ρ <;> rw [e] at h
  · exact n _ h
  · exact t _ _ h
  · exact b _ h
  · exact c _ h
  · exact h
section
variable {α β : Type} {ρ : List Sl} {N : List Sl → Prop} {T : Rs → List Sl → Prop} {B C : List Sl → Prop}
theorem vM_bd {m : M α} {k : α → M β} {Q : β → List Sl → Prop} : vM (bd m k) ρ Q = vM m ρ fun a ρ1 => vM (k a) ρ1 Q := by
  unfold vM bd
  cases m ρ <;> rfl
theorem vM_pr {a : α} {Q : α → List Sl → Prop} : vM (pr a) ρ Q = Q a ρ := rfl
theorem vM_opt {o : Option α} {Q : α → List Sl → Prop} : vM (opt o) ρ Q = vO o fun a => Q a ρ := by cases o <;> rfl
theorem vO_some {a : α} {Q : α → Prop} : vO (some a) Q = Q a := rfl
theorem vM_C {d : D} {Q : Rs → List Sl → Prop} : vM (dC d) ρ Q = Q (.fz d) ρ := rfl
def varK (o : Option Sl) (i : Nat) (ρ : List Sl) (Q : Rs → List Sl → Prop) (_ : Tag Q := .mk) : Prop := match o with
  | some (.fz d) => Q (.fz d) ρ
  | some (.ow _) => Q (.nm i) ρ
  | some (.lk _) => Q (.nm i) ρ
  | _ => False
theorem vM_var {i : Nat} {Q : Rs → List Sl → Prop} : vM (dVar i) ρ Q = varK ρ[i]? i ρ Q := by
  unfold vM dVar varK
  cases ρ[i]? with
  | none => rfl
  | some s => cases s <;> rfl
theorem varK_fz {d : D} {i : Nat} {Q : Rs → List Sl → Prop} : varK (some (.fz d)) i ρ Q = Q (.fz d) ρ := rfl
theorem varK_ow {d : D} {i : Nat} {Q : Rs → List Sl → Prop} : varK (some (.ow d)) i ρ Q = Q (.nm i) ρ := rfl
theorem varK_lk {d : D} {i : Nat} {Q : Rs → List Sl → Prop} : varK (some (.lk d)) i ρ Q = Q (.nm i) ρ := rfl
def lookK (o : Option Sl) (ρ : List Sl) (Q : D → List Sl → Prop) (_ : Tag Q := .mk) : Prop := match o with
  | some (.fz d) => Q d ρ
  | some (.ow d) => Q d ρ
  | some (.lk d) => Q d ρ
  | _ => False
theorem lookK_fz {d : D} {Q : D → List Sl → Prop} : lookK (some (.fz d)) ρ Q = Q d ρ := rfl
theorem lookK_ow {d : D} {Q : D → List Sl → Prop} : lookK (some (.ow d)) ρ Q = Q d ρ := rfl
theorem lookK_lk {d : D} {Q : D → List Sl → Prop} : lookK (some (.lk d)) ρ Q = Q d ρ := rfl
theorem vM_look_fz {d : D} {Q : D → List Sl → Prop} : vM (look (.fz d)) ρ Q = Q d ρ := rfl
theorem vM_look_ow {d : D} {Q : D → List Sl → Prop} : vM (look (.ow d)) ρ Q = Q d ρ := rfl
theorem vM_look_nm {i : Nat} {Q : D → List Sl → Prop} : vM (look (.nm i)) ρ Q = lookK ρ[i]? ρ Q := by
  unfold vM look lookK
  simp only
  cases ρ[i]? with
  | none => rfl
  | some s => cases s <;> rfl
def frzK (o : Option Sl) (i : Nat) (ρ : List Sl) (Q : D → List Sl → Prop) (_ : Tag Q := .mk) : Prop := match o with
  | some (.fz d) => Q d ρ
  | some (.ow d) => Q d (ρ.set i (.fz d))
  | some (.lk d) => Q d (ρ.set i (.fz d))
  | _ => False
theorem frzK_fz {d : D} {i : Nat} {Q : D → List Sl → Prop} : frzK (some (.fz d)) i ρ Q = Q d ρ := rfl
theorem frzK_ow {d : D} {i : Nat} {Q : D → List Sl → Prop} : frzK (some (.ow d)) i ρ Q = Q d (ρ.set i (.fz d)) := rfl
theorem frzK_lk {d : D} {i : Nat} {Q : D → List Sl → Prop} : frzK (some (.lk d)) i ρ Q = Q d (ρ.set i (.fz d)) := rfl
theorem vM_frz_fz {d : D} {Q : D → List Sl → Prop} : vM (frz (.fz d)) ρ Q = Q d ρ := rfl
theorem vM_frz_ow {d : D} {Q : D → List Sl → Prop} : vM (frz (.ow d)) ρ Q = Q d ρ := rfl
theorem vM_frz_nm {i : Nat} {Q : D → List Sl → Prop} : vM (frz (.nm i)) ρ Q = frzK ρ[i]? i ρ Q := by
  unfold vM frz frzK
  simp only
  cases ρ[i]? with
  | none => rfl
  | some s => cases s <;> rfl
theorem vM_op2 {g : G2} {a b : M Rs} {Q : Rs → List Sl → Prop} : vM (dOp2 g a b) ρ Q = vM a ρ fun ra ρ1 => vM b ρ1 fun rb ρ2 => vM (look ra) ρ2 fun da ρ3 => vM (look rb) ρ3 fun db ρ4 => vO (g da db) fun r => Q r ρ4 := by
  unfold dOp2; simp only [vM_bd, vM_opt]
theorem vM_op2T {g : D → D → Option Bool} {a b : M Rs} {Q : Bool → List Sl → Prop} : vM (dOp2T g a b) ρ Q = vM a ρ fun ra ρ1 => vM b ρ1 fun rb ρ2 => vM (look ra) ρ2 fun da ρ3 => vM (look rb) ρ3 fun db ρ4 => vO (g da db) fun r => Q r ρ4 := by
  unfold dOp2T; simp only [vM_bd, vM_opt]
theorem vO_gB {g : D → D → Option Bool} {x y : D} {Q : Rs → Prop} : vO (gB g x y) Q = vO (g x y) fun k => Q (.fz (.bool k)) := by
  show vO ((g x y).map _) Q = _
  cases g x y <;> rfl
theorem vM_op1 {g : D → Option Rs} {a : M Rs} {Q : Rs → List Sl → Prop} : vM (dOp1 g a) ρ Q = vM a ρ fun ra ρ1 => vM (look ra) ρ1 fun da ρ2 => vO (g da) fun r => Q r ρ2 := by
  unfold dOp1; simp only [vM_bd, vM_opt]
theorem vM_nil {Q : List Rs → List Sl → Prop} : vM dNil ρ Q = Q [] ρ := rfl
theorem vM_cons {f : M Rs} {g : M (List Rs)} {Q : List Rs → List Sl → Prop} : vM (dCons f g) ρ Q = vM f ρ fun r ρ1 => vM g ρ1 fun rs ρ2 => Q (r :: rs) ρ2 := by
  unfold dCons; simp only [vM_bd, vM_pr]
theorem vM_frzA0 {Q : List D → List Sl → Prop} : vM (frzA []) ρ Q = Q [] ρ := rfl
theorem vM_frzA {r : Rs} {rs : List Rs} {Q : List D → List Sl → Prop} : vM (frzA (r :: rs)) ρ Q = vM (frz r) ρ fun d ρ1 => vM (frzA rs) ρ1 fun ds ρ2 => Q (d :: ds) ρ2 := by
  conv => lhs; unfold frzA
  simp only [vM_bd, vM_pr]
theorem vM_lookA0 {Q : List D → List Sl → Prop} : vM (lookA []) ρ Q = Q [] ρ := rfl
theorem vM_lookA {r : Rs} {rs : List Rs} {Q : List D → List Sl → Prop} : vM (lookA (r :: rs)) ρ Q = vM (look r) ρ fun d ρ1 => vM (lookA rs) ρ1 fun ds ρ2 => Q (d :: ds) ρ2 := by
  conv => lhs; unfold lookA
  simp only [vM_bd, vM_pr]
theorem vM_ite {c : Prop} [Decidable c] {a b : M α} {Q : α → List Sl → Prop} : vM (if c then a else b) ρ Q = if c then vM a ρ Q else vM b ρ Q := by split <;> rfl
theorem vM_tup {f : M (List Rs)} {Q : Rs → List Sl → Prop} : vM (dTup f) ρ Q = vM f ρ fun rs ρ1 => vM (frzA rs) ρ1 fun ds ρ2 => ds.length ≤ 1000 ∧ Q (.fz (.tuple ds)) ρ2 := by
  unfold dTup; simp only [vM_bd]
  congr 1; funext rs ρ1; congr 1; funext ds ρ2
  by_cases h : ds.length ≤ 1000
  · rw [if_pos h]; simp only [vM_pr, h, true_and]
  · rw [if_neg h]; simp only [h, false_and]; rfl
theorem vM_lst {f : M (List Rs)} {Q : Rs → List Sl → Prop} : vM (dLst f) ρ Q = vM f ρ fun rs ρ1 => vM (frzA rs) ρ1 fun ds ρ2 => ds.length ≤ 1000 ∧ Q (.ow (.list ds)) ρ2 := by
  unfold dLst; simp only [vM_bd]
  congr 1; funext rs ρ1; congr 1; funext ds ρ2
  by_cases h : ds.length ≤ 1000
  · rw [if_pos h]; simp only [vM_pr, h, true_and]
  · rw [if_neg h]; simp only [h, false_and]; rfl
theorem vM_B {g : List D → Option Rs} {f : M (List Rs)} {Q : Rs → List Sl → Prop} : vM (dB g f) ρ Q = vM f ρ fun rs ρ1 => vM (lookA rs) ρ1 fun ds ρ2 => vO (g ds) fun r => Q r ρ2 := by
  unfold dB; simp only [vM_bd, vM_opt]
theorem vM_isi {T : Ty} {f : M Rs} {Q : Rs → List Sl → Prop} : vM (dIsi T f) ρ Q = vM f ρ fun r ρ1 => vM (look r) ρ1 fun d ρ2 => Q (.fz (.bool (isT T d))) ρ2 := by
  unfold dIsi; simp only [vM_bd, vM_pr]
theorem vM_me {c : D → Bool} {g : D → List D → Option Rs} {fo : M Rs} {fa : M (List Rs)} {Q : Rs → List Sl → Prop} : vM (dMe c g fo fa) ρ Q = vM fo ρ fun ro ρ1 => vM (look ro) ρ1 fun d0 ρ2 => c d0 = true ∧ vM fa ρ2 fun rs ρ3 => vM (look ro) ρ3 fun d ρ4 => vM (lookA rs) ρ4 fun ds ρ5 => vO (g d ds) fun r => Q r ρ5 := by
  unfold dMe; simp only [vM_bd]
  congr 1; funext rs ρ1; congr 1; funext ds ρ2
  by_cases h : c ds = true
  · rw [if_pos h]; simp only [vM_bd, vM_opt, h, true_and]
  · rw [if_neg h]; exact propext ⟨fun z => z.elim, fun z => (h z.1).elim⟩
theorem vM_sl {fa : M Rs} {fl fh : M (Option Int)} {Q : Rs → List Sl → Prop} : vM (dSl fa fl fh) ρ Q = vM fa ρ fun ra ρ1 => vM fl ρ1 fun l ρ2 => vM fh ρ2 fun h ρ3 => vM (look ra) ρ3 fun d ρ4 => vO (gSl d l h) fun r => Q r ρ4 := by
  unfold dSl; simp only [vM_bd, vM_opt]
theorem vM_noP {Q : Option Int → List Sl → Prop} : vM dNoP ρ Q = Q none ρ := rfl
def intD : D → Option (Option Int)
  | .int i => some (some i)
  | _ => none
theorem vM_part {f : M Rs} {Q : Option Int → List Sl → Prop} : vM (dPart f) ρ Q = vM f ρ fun r ρ1 => vM (look r) ρ1 fun d ρ2 => vO (intD d) fun i => Q i ρ2 := by
  unfold dPart; simp only [vM_bd, vM_opt]
  rfl
theorem intD_int {i : Int} : intD (.int i) = some (some i) := rfl
theorem vM_key {f : M Rs} {Q : Key → List Sl → Prop} : vM (dKey f) ρ Q = vM f ρ fun r ρ1 => vM (look r) ρ1 fun d ρ2 => vO (keyOf d) fun k => Q k ρ2 := by
  unfold dKey; simp only [vM_bd, vM_opt]
def callK (sem : M Rs) (rs : List Rs) (ρ : List Sl) (Q : Rs → List Sl → Prop) (_ : Tag Q := .mk) : Prop := vR (sem (rs.map (slotOf ρ))) fun r ρp => match r with
  | .fz d => Q (.fz d) (wb rs ρp ρ)
  | .ow d => Q (.ow d) (wb rs ρp ρ)
  | .nm _ => False
theorem vM_call {ls : List Bool} {sem : M Rs} {f : M (List Rs)} {Q : Rs → List Sl → Prop} : vM (dCall ls sem f) ρ Q = vM f ρ fun rs ρ1 => vM (argSA ls rs) ρ1 fun rs' ρ2 => (nmOk rs' && rs'.all (heldR ρ2)) = true ∧ callK sem rs' ρ2 Q := by
  unfold dCall; simp only [vM_bd]
  congr 1; funext rs ρ1; congr 1; funext rs' ρ2
  unfold callK vM
  dsimp only
  by_cases h : (nmOk rs' && rs'.all (heldR ρ2)) = true
  · rw [if_pos h]; simp only [h, true_and]
    cases sem (rs'.map (slotOf ρ2)) with
    | bad => rfl
    | ok r ρp => cases r <;> rfl
  · rw [if_neg h]; exact propext ⟨fun z => z.elim, fun z => (h z.1).elim⟩
theorem callK_fz {sem : M Rs} {rs : List Rs} {Q : Rs → List Sl → Prop} {d : D} {ρp : List Sl} (h : sem (rs.map (slotOf ρ)) = .ok (.fz d) ρp) : callK sem rs ρ Q = Q (.fz d) (wb rs ρp ρ) := by
  unfold callK; rw [h]; rfl
theorem callK_ow {sem : M Rs} {rs : List Rs} {Q : Rs → List Sl → Prop} {d : D} {ρp : List Sl} (h : sem (rs.map (slotOf ρ)) = .ok (.ow d) ρp) : callK sem rs ρ Q = Q (.ow d) (wb rs ρp ρ) := by
  unfold callK; rw [h]; rfl
theorem vM_argSA0 {Q : List Rs → List Sl → Prop} : vM (argSA [] []) ρ Q = Q [] ρ := rfl
theorem vM_argSA {l : Bool} {ls : List Bool} {r : Rs} {rs : List Rs} {Q : List Rs → List Sl → Prop} : vM (argSA (l :: ls) (r :: rs)) ρ Q = vM (argS l r) ρ fun r' ρ1 => vM (argSA ls rs) ρ1 fun rs' ρ2 => Q (r' :: rs') ρ2 := by
  conv => lhs; unfold argSA
  simp only [vM_bd, vM_pr]
theorem vM_argS_fz {l : Bool} {d : D} {Q : Rs → List Sl → Prop} : vM (argS l (.fz d)) ρ Q = Q (.fz d) ρ := rfl
theorem vM_argS_ow {l : Bool} {d : D} {Q : Rs → List Sl → Prop} : vM (argS l (.ow d)) ρ Q = Q (.ow d) ρ := rfl
def argK (o : Option Sl) (l : Bool) (i : Nat) (ρ : List Sl) (Q : Rs → List Sl → Prop) (_ : Tag Q := .mk) : Prop := match o with
  | some (.fz d) => Q (.fz d) ρ
  | some (.ow d) => if l then Q (.nm i) ρ else Q (.fz d) (ρ.set i (.fz d))
  | some (.lk d) => if l then Q (.nm i) ρ else Q (.fz d) (ρ.set i (.fz d))
  | _ => False
theorem vM_argS_nm {l : Bool} {i : Nat} {Q : Rs → List Sl → Prop} : vM (argS l (.nm i)) ρ Q = argK ρ[i]? l i ρ Q := by
  unfold vM argS argK
  simp only
  cases ρ[i]? with
  | none => rfl
  | some s => cases s <;> cases l <;> rfl
theorem argK_fz {l : Bool} {i : Nat} {d : D} {Q : Rs → List Sl → Prop} : argK (some (.fz d)) l i ρ Q = Q (.fz d) ρ := rfl
theorem argK_owt {i : Nat} {d : D} {Q : Rs → List Sl → Prop} : argK (some (.ow d)) true i ρ Q = Q (.nm i) ρ := rfl
theorem argK_owf {i : Nat} {d : D} {Q : Rs → List Sl → Prop} : argK (some (.ow d)) false i ρ Q = Q (.fz d) (ρ.set i (.fz d)) := rfl
theorem argK_lkt {i : Nat} {d : D} {Q : Rs → List Sl → Prop} : argK (some (.lk d)) true i ρ Q = Q (.nm i) ρ := rfl
theorem argK_lkf {i : Nat} {d : D} {Q : Rs → List Sl → Prop} : argK (some (.lk d)) false i ρ Q = Q (.fz d) (ρ.set i (.fz d)) := rfl
def v_mutK (o : Option Sl) (i : Nat) (c : D → Bool) (fr : Bool) (g : D → List D → Option (D × D)) (f : M (List Rs)) (ρ : List Sl) (Q : Rs → List Sl → Prop) : Prop := match o with
  | some (.ow d0) => c d0 = true ∧ vM f ρ fun rs ρ1 => vM (if fr = true then frzA rs else lookA rs) ρ1 fun ds ρ2 => match ρ2[i]? with
    | some (.ow d) => vO (g d ds) fun p => Q (.fz p.2) (ρ2.set i (.ow p.1))
    | _ => False
  | _ => False
theorem vM_mut {i : Nat} {c : D → Bool} {fr : Bool} {g : D → List D → Option (D × D)} {f : M (List Rs)} {Q : Rs → List Sl → Prop} : vM (dMut i c fr g f) ρ Q = v_mutK ρ[i]? i c fr g f ρ Q := by
  unfold v_mutK
  cases h : ρ[i]? with
  | none => unfold vM dMut; rw [h]; rfl
  | some s =>
    cases s with
    | ow d0 =>
      simp only
      by_cases hc : c d0 = true
      · have : dMut i c fr g f ρ = bd f (fun rs => bd (if fr = true then frzA rs else lookA rs) fun ds => fun ρ1 => match ρ1[i]? with
          | some (.ow d) => match g d ds with
            | some (d', res) => .ok (.fz res) (ρ1.set i (.ow d'))
            | none => .bad
          | _ => .bad) ρ := by unfold dMut; rw [h]; simp only [hc, if_true] <;> rfl
        unfold vM
        rw [this]
        show vM (bd f _) ρ Q = _
        simp only [hc, true_and, vM_bd]
        congr 1; funext rs ρ1; congr 1; funext ds ρ2
        unfold vM
        dsimp only
        cases h2 : ρ2[i]? with
        | none => rfl
        | some s2 =>
          cases s2 with
          | ow d =>
            simp only
            cases g d ds with
            | none => rfl
            | some p => rfl
          | em => rfl
          | fz _ => rfl
          | lk _ => rfl
      · unfold vM dMut; rw [h]; simp only [if_neg hc]; exact propext ⟨fun z => z.elim, fun z => (hc z.1).elim⟩
    | em => unfold vM dMut; rw [h]; rfl
    | fz _ => unfold vM dMut; rw [h]; rfl
    | lk _ => unfold vM dMut; rw [h]; rfl
theorem v_mutK_ow {i : Nat} {c : D → Bool} {fr : Bool} {g : D → List D → Option (D × D)} {f : M (List Rs)} {Q : Rs → List Sl → Prop} {d0 : D} : v_mutK (some (.ow d0)) i c fr g f ρ Q = (c d0 = true ∧ vM f ρ fun rs ρ1 => vM (if fr = true then frzA rs else lookA rs) ρ1 fun ds ρ2 => match ρ2[i]? with
    | some (.ow d) => vO (g d ds) fun p => Q (.fz p.2) (ρ2.set i (.ow p.1))
    | _ => False) := rfl
-- tests
theorem vM_yes {Q : Bool → List Sl → Prop} : vM dYes ρ Q = Q true ρ := rfl
-- statements
theorem vS_seq {f g : DS} : vS (dSeq f g) ρ N T B C = vS f ρ (fun ρ1 => vS g ρ1 N T B C) T B C := by
  unfold vS dSeq; cases f ρ <;> rfl
theorem vS_pass : vS dPass ρ N T B C = N ρ := rfl
theorem vS_brk : vS dBrk ρ N T B C = B ρ := rfl
theorem vS_cnt : vS dCnt ρ N T B C = C ρ := rfl
theorem vS_ret {f : M Rs} : vS (dRet f) ρ N T B C = vM f ρ T := by unfold vS dRet vM vR; cases f ρ <;> rfl
theorem vS_drop {f : M Rs} : vS (dDrop f) ρ N T B C = vM f ρ fun _ ρ1 => N ρ1 := by unfold vS dDrop vM vR; cases f ρ <;> rfl
theorem vS_if {c : M Bool} {f g : DS} : vS (dIf c f g) ρ N T B C = vM c ρ fun b ρ1 => if b = true then vS f ρ1 N T B C else vS g ρ1 N T B C := by
  unfold vS dIf vM vR
  cases c ρ with
  | bad => rfl
  | ok b ρ' => cases b <;> rfl
theorem vS_set {i : Nat} {f : M Rs} : vS (dSet i f) ρ N T B C = vM f ρ fun r ρ1 => vO (setR i r ρ1) N := by
  unfold vS dSet vM vR
  cases f ρ with
  | bad => rfl
  | ok r ρ1 => simp only; cases setR i r ρ1 <;> rfl
theorem vS_asg {g : DG} {f : M Rs} : vS (dAsg g f) ρ N T B C = vM f ρ fun r ρ1 => vM (frz r) ρ1 fun d ρ2 => vO (g d ρ2) N := by
  rw [← vM_bd]
  unfold vS dAsg vM vR
  cases bd f frz ρ with
  | bad => rfl
  | ok r ρ1 => simp only; cases g r ρ1 <;> rfl
theorem vS_par {is : List Nat} {f : M (List Rs)} : vS (dPar is f) ρ N T B C = vM f ρ fun rs ρ1 => vM (argSA (is.map fun _ => false) rs) ρ1 fun rs' ρ2 => vO (setQs is rs' ρ2) N := by
  rw [← vM_bd]
  unfold vS dPar vM vR
  cases bd f (argSA (is.map fun _ => false)) ρ with
  | bad => rfl
  | ok r ρ1 => simp only; cases setQs is r ρ1 <;> rfl
def v_putK' (o : Option Sl) (i : Nat) (k : Key) (dv : D) (ρ : List Sl) (N : List Sl → Prop) : Prop := match o with
  | some (.ow d) => vO (gPut d (kD k) dv) fun d' => N (ρ.set i (.ow d'))
  | _ => False
def isOw : Option Sl → Bool
  | some (.ow _) => true
  | _ => false
theorem vS_put {i : Nat} {fi fe : M Rs} : vS (dPut i fi fe) ρ N T B C = vM fe ρ fun r ρ1 => vM (frz r) ρ1 fun dv ρ2 => isOw ρ2[i]? = true ∧ vM (dKey fi) ρ2 fun k ρ3 => v_putK' ρ3[i]? i k dv ρ3 N := by
  rw [← vM_bd]
  unfold vS dPut
  conv => rhs; unfold vM vR
  cases bd fe frz ρ with
  | bad => rfl
  | ok dv ρ1 =>
    simp only
    cases ρ1[i]? with
    | none => simp [isOw]
    | some s =>
      cases s with
      | ow d0 =>
        simp only [isOw, true_and]
        cases dKey fi ρ1 with
        | bad => rfl
        | ok k ρ3 =>
          simp only
          unfold v_putK'
          cases ρ3[i]? with
          | none => rfl
          | some s3 =>
            cases s3 with
            | ow d => simp only; cases gPut d (kD k) dv <;> rfl
            | em => rfl
            | fz _ => rfl
            | lk _ => rfl
      | em => simp [isOw]
      | fz _ => simp [isOw]
      | lk _ => simp [isOw]
theorem v_putK'_ow {i : Nat} {k : Key} {dv d : D} : v_putK' (some (.ow d)) i k dv ρ N = vO (gPut d (kD k) dv) fun d' => N (ρ.set i (.ow d')) := rfl
def fzO : Option Rs → Option D
  | some (.fz d) => some d
  | _ => none
def v_getK (o : Option Sl) (k : Key) (Q : D → Prop) : Prop := match o with
  | some (.ow d) => vO (gGet d (kD k)) Q
  | _ => False
theorem vS_augS {g : G2} {i : Nat} {fi fe : M Rs} : vS (dAugS g i fi fe) ρ N T B C = (isOw ρ[i]? = true ∧ vM (dKey fi) ρ fun k ρ1 => v_getK ρ1[i]? k fun old => vM fe ρ1 fun r ρ2 => vM (look r) ρ2 fun dv ρ3 => vO (fzO (g old dv)) fun dn => v_putK' ρ3[i]? i k dn ρ3 N) := by
  unfold vS dAugS
  cases ρ[i]? with
  | none => simp [isOw]
  | some s =>
    cases s with
    | em => simp [isOw]
    | fz _ => simp [isOw]
    | lk _ => simp [isOw]
    | ow d0 =>
      simp only [isOw, true_and]
      conv => rhs; unfold vM vR
      cases dKey fi ρ with
      | bad => rfl
      | ok k ρ1 =>
        simp only
        unfold v_getK
        cases ρ1[i]? with
        | none => rfl
        | some s1 =>
          cases s1 with
          | em => rfl
          | fz _ => rfl
          | lk _ => rfl
          | ow d1 =>
            simp only
            cases gGet d1 (kD k) with
            | none => rfl
            | some old =>
              simp only [vO]
              unfold bd
              cases fe ρ1 with
              | bad => rfl
              | ok r0 ρ1' =>
              simp only
              cases look r0 ρ1' with
              | bad => rfl
              | ok dv ρ2 =>
                simp only
                cases g old dv with
                | none => rfl
                | some r =>
                  cases r with
                  | ow _ => rfl
                  | nm _ => rfl
                  | fz dn =>
                    simp only [fzO]
                    unfold v_putK'
                    cases ρ2[i]? with
                    | none => rfl
                    | some s3 =>
                      cases s3 with
                      | ow d => simp only; cases gPut d (kD k) dn <;> rfl
                      | em => rfl
                      | fz _ => rfl
                      | lk _ => rfl
theorem v_getK_ow {k : Key} {d : D} {Q : D → Prop} : v_getK (some (.ow d)) k Q = vO (gGet d (kD k)) Q := rfl
theorem fzO_fz {d : D} : fzO (some (.fz d)) = some d := rfl
def augK (o : Option Sl) (Q : D → Prop) (_ : Tag Q := .mk) : Prop := match o with
  | some (.fz d) => Q d
  | _ => False
theorem augK_fz {d : D} {Q : D → Prop} : augK (some (.fz d)) Q = Q d := rfl
theorem vS_aug {g : G2} {i : Nat} {fe : M Rs} : vS (dAug g i fe) ρ N T B C = augK ρ[i]? fun d => vM fe ρ fun r ρ1 => vM (look r) ρ1 fun dv ρ2 => vO (fzO (g d dv)) fun dn => vO (setR i (.fz dn) ρ2) N := by
  unfold vS dAug augK
  cases ρ[i]? with
  | none => rfl
  | some s =>
    cases s with
    | em => rfl
    | ow _ => rfl
    | lk _ => rfl
    | fz d =>
      simp only
      rw [← vM_bd]
      unfold vM vR
      cases bd fe look ρ with
      | bad => rfl
      | ok dv ρ1 =>
        simp only
        cases g d dv with
        | none => rfl
        | some r =>
          cases r with
          | ow _ => rfl
          | nm _ => rfl
          | fz dn =>
            simp only [fzO, vO, setR]
            by_cases h : i < ρ1.length
            · simp only [h, if_true]
            · simp only [h, if_false]
/-- a def's promise -/
theorem vM_run {ms : List Bool} {n : Nat} {body : DS} {Q : Rs → List Sl → Prop} : vM (runDef ms n body) ρ Q = vS body (ρ ++ List.replicate (n - ρ.length) .em) (fun ρ' => Q (.fz .none) (outP ms ρ')) (fun r ρ' => match r with
    | .fz d => Q (.fz d) (outP ms ρ')
    | .ow d => Q (.ow d) (outP ms ρ')
    | .nm i => match ρ'[i]? with
      | some (.fz d) => Q (.fz d) (outP ms ρ')
      | some (.ow d) => if ms.length ≤ i then Q (.ow d) (outP ms ρ') else Q (.fz d) (outP ms (ρ'.set i (.fz d)))
      | some (.lk d) => Q (.fz d) (outP ms (ρ'.set i (.fz d)))
      | _ => False) nope nope := by
  unfold vM runDef vS
  cases body (ρ ++ List.replicate (n - ρ.length) .em) with
  | nx ρ' => rfl
  | bk ρ' => rfl
  | ct ρ' => rfl
  | bad => rfl
  | rt r ρ' =>
    cases r with
    | fz d => rfl
    | ow d => rfl
    | nm i =>
      simp only
      cases ρ'[i]? with
      | none => rfl
      | some s =>
        cases s with
        | ow d => simp only; by_cases h : ms.length ≤ i <;> simp only [h, if_true, if_false] <;> rfl
        | _ => rfl
/-! ### loops -/
theorem vS_forGo {g : DG} {body : DS} (I : Nat → List Sl → Prop) {T : Rs → List Sl → Prop} {Bk : List Sl → Prop} : ∀ (ds : List D) (j : Nat) (ρ : List Sl), I j ρ →
    (∀ k d ρ, ds[k]? = some d → I (j + k) ρ → vO (g d ρ) fun ρ1 => vS body ρ1 (I (j + k + 1)) T Bk (I (j + k + 1))) → vS (forGo g body ds) ρ (fun ρ => I (j + ds.length) ρ ∨ Bk ρ) T nope nope
  | [], j, ρ, h, _ => by unfold vS forGo; exact .inl h
  | d :: ds, j, ρ, h, st => by
    have h0 := st 0 d ρ rfl h
    unfold vS forGo
    cases e : g d ρ with
    | none => rw [e] at h0; exact h0.elim
    | some ρ1 =>
      rw [e] at h0
      have h0 : vS body ρ1 (I (j + 0 + 1)) T Bk (I (j + 0 + 1)) := h0
      unfold vS at h0
      have next : ∀ ρ2, I (j + 1) ρ2 → vS (forGo g body ds) ρ2 (fun ρ => I (j + (d :: ds).length) ρ ∨ Bk ρ) T nope nope := fun ρ2 h2 => by
        have q := vS_forGo (T := T) (Bk := Bk) I ds (j + 1) ρ2 h2 fun k d' ρ3 hk hi => by
          have := st (k + 1) d' ρ3 (by simpa using hk) (by rw [show j + (k + 1) = j + 1 + k by omega]; exact hi)
          rw [show j + (k + 1) = j + 1 + k by omega] at this; exact this
        rw [show j + (d :: ds).length = j + 1 + ds.length by rw [List.length_cons]; omega]; exact q
      simp only
      cases eb : body ρ1 with
      | nx ρ2 => rw [eb] at h0; exact next ρ2 h0
      | ct ρ2 => rw [eb] at h0; exact next ρ2 h0
      | bk ρ2 => rw [eb] at h0; exact .inr h0
      | rt r ρ2 => rw [eb] at h0; exact h0
      | bad => rw [eb] at h0; exact h0.elim
theorem vS_for {w : M Wk} {g : DG} {body : DS} (h : vM w ρ fun p ρ1 => ∃ I : Nat → List Sl → Prop, I 0 ρ1 ∧ (∀ k d ρ, p.1[k]? = some d → I k ρ → vO (g d ρ) fun ρ2 => vS body ρ2 (I (k + 1)) (fun r ρ => T r (unl p.2 ρ)) (fun ρ => N (unl p.2 ρ)) (I (k + 1))) ∧ ∀ ρ, I p.1.length ρ → N (unl p.2 ρ)) :
    vS (dFor w g body) ρ N T B C := by
  obtain ⟨⟨ds, l⟩, ρ1, e, I, h0, st, fin⟩ := vM_iff.mp h
  unfold vS dFor
  rw [e]
  have q := vS_forGo (g := g) (body := body) (T := fun r ρ => T r (unl l ρ)) (Bk := fun ρ => N (unl l ρ)) I ds 0 ρ1 h0 fun k d ρ hk hi => by
    rw [Nat.zero_add] at hi ⊢; exact st k d ρ hk hi
  simp only
  unfold vS at q
  cases ef : forGo g body ds ρ1 with
  | nx ρ2 =>
    rw [ef] at q
    rcases q with q | q
    · exact fin ρ2 (by rw [Nat.zero_add] at q; exact q)
    · exact q
  | rt r ρ2 => rw [ef] at q; exact q
  | bk ρ2 => rw [ef] at q; exact q.elim
  | ct ρ2 => rw [ef] at q; exact q.elim
  | bad => rw [ef] at q; exact q.elim
theorem vS_while {c : M Bool} {body : DS} (I : Nat → List Sl → Prop) {N : List Sl → Prop} (st : ∀ m ρ, I m ρ → vM c ρ fun b ρ1 => if b = true then vS body ρ1 (fun ρ => ∃ m', m' < m ∧ I m' ρ) T N (fun ρ => ∃ m', m' < m ∧ I m' ρ) else N ρ1) : ∀ (m n : Nat) (ρ : List Sl), m < n → I m ρ → vS (dWhile n c body) ρ N T B C := by
  intro m
  induction m using Nat.strongRecOn with
  | ind m ih =>
    intro n ρ hn h
    cases n with
    | zero => omega
    | succ n =>
      obtain ⟨b, ρ1, e, q⟩ := vM_iff.mp (st m ρ h)
      unfold vS dWhile whileGo
      rw [e]
      cases b with
      | false => exact q
      | true =>
        rw [if_pos rfl] at q
        simp only
        unfold vS at q
        cases eb : body ρ1 with
        | nx ρ2 => rw [eb] at q; obtain ⟨m', h1, h2⟩ := q; exact ih m' h1 n ρ2 (by omega) h2
        | ct ρ2 => rw [eb] at q; obtain ⟨m', h1, h2⟩ := q; exact ih m' h1 n ρ2 (by omega) h2
        | bk ρ2 => rw [eb] at q; exact q
        | rt r ρ2 => rw [eb] at q; exact q
        | bad => rw [eb] at q; exact q.elim
/-! ### comprehensions -/
theorem vM_lcGo {own : List Nat} {g : DG} {tt : M Bool} {te : M Rs} (I : Nat → List D → List Sl → Prop) : ∀ (ds : List D) (j : Nat) (acc : List D) (ρ : List Sl), I j acc ρ →
    (∀ k d acc ρ, ds[k]? = some d → I (j + k) acc ρ → vO (g d ρ) fun ρ1 => vM tt ρ1 fun b ρ2 => if b = true then vM te ρ2 fun r ρ3 => vM (frz r) ρ3 fun x ρ4 => I (j + k + 1) (acc ++ [x]) (wipeR own ρ4) else I (j + k + 1) acc (wipeR own ρ2)) →
    vM (lcGo own g tt te ds acc) ρ fun acc ρ => I (j + ds.length) acc ρ
  | [], j, acc, ρ, h, _ => h
  | d :: ds, j, acc, ρ, h, st => by
    have h0 := st 0 d acc ρ rfl h
    have next : ∀ acc2 ρ2, I (j + 1) acc2 ρ2 → vM (lcGo own g tt te ds acc2) ρ2 fun acc ρ => I (j + (d :: ds).length) acc ρ := fun acc2 ρ2 h2 => by
      have q := vM_lcGo I ds (j + 1) acc2 ρ2 h2 fun k d' acc3 ρ3 hk hi => by
        have := st (k + 1) d' acc3 ρ3 (by simpa using hk) (by rw [show j + (k + 1) = j + 1 + k by omega]; exact hi)
        rw [show j + (k + 1) = j + 1 + k by omega] at this; exact this
      rw [show j + (d :: ds).length = j + 1 + ds.length by rw [List.length_cons]; omega]; exact q
    unfold vM lcGo
    cases e : g d ρ with
    | none => rw [e] at h0; exact h0.elim
    | some ρ1 =>
      rw [e] at h0
      have h0 : vM tt ρ1 _ := h0
      obtain ⟨b, ρ2, e2, q⟩ := vM_iff.mp h0
      simp only [e2]
      cases b with
      | false => exact next _ _ q
      | true =>
        rw [if_pos rfl, ← vM_bd] at q
        obtain ⟨x, ρ3, e3, q⟩ := vM_iff.mp q
        simp only [e3]
        exact next _ _ q
/-- the rule of a comprehension -/
theorem vM_lc {own : List Nat} {w : M Wk} {g : DG} {tt : M Bool} {te : M Rs} {Q : Rs → List Sl → Prop} (h : vM w ρ fun p ρ1 => p.1.length ≤ sizeLine ∧ ∃ I : Nat → List D → List Sl → Prop, I 0 [] (wipeR own ρ1) ∧
    (∀ k d acc ρ, p.1[k]? = some d → I k acc ρ → vO (g d ρ) fun ρ1 => vM tt ρ1 fun b ρ2 => if b = true then vM te ρ2 fun r ρ3 => vM (frz r) ρ3 fun x ρ4 => I (k + 1) (acc ++ [x]) (wipeR own ρ4) else I (k + 1) acc (wipeR own ρ2)) ∧
    ∀ acc ρ2, I p.1.length acc ρ2 → Q (.ow (.list acc)) (unl p.2 (restore own ρ1 ρ2))) : vM (dLc own w g tt te) ρ Q := by
  obtain ⟨⟨ds, l⟩, ρ1, e, hl, I, h0, st, fin⟩ := vM_iff.mp h
  unfold vM dLc
  rw [e]
  simp only [show ds.length ≤ sizeLine from hl, if_true]
  obtain ⟨acc, ρ2, e2, q⟩ := vM_iff.mp (vM_lcGo (own := own) (g := g) (tt := tt) (te := te) I ds 0 [] _ h0 fun k d acc ρ hk hi => by rw [Nat.zero_add] at hi ⊢; exact st k d acc ρ hk hi)
  rw [Nat.zero_add] at q
  rw [e2]
  exact fin acc ρ2 q
/-- a comprehension that changes nothing, over coded items -/
theorem vM_lcMap {α : Type} {own : List Nat} {w : M Wk} {g : DG} {tt : M Bool} {te : M Rs} {Q : Rs → List Sl → Prop} (enc : α → D) (xs : List α) (p : α → Bool) (f : α → D) (h : vM w ρ fun q ρ1 => q.1 = xs.map enc ∧ xs.length ≤ sizeLine ∧
    (∀ x ∈ xs, vO (g (enc x) (wipeR own ρ1)) fun ρ2 => vM tt ρ2 fun b ρ3 => b = p x ∧ if b = true then vM te ρ3 fun r ρ4 => vM (frz r) ρ4 fun y ρ5 => y = f x ∧ wipeR own ρ5 = wipeR own ρ1 else wipeR own ρ3 = wipeR own ρ1) ∧
    Q (.ow (.list ((xs.filter p).map f))) (unl q.2 (restore own ρ1 (wipeR own ρ1)))) : vM (dLc own w g tt te) ρ Q := by
  refine vM_lc (vM_mono h fun q ρ1 ⟨h1, h2, h3, h4⟩ => ⟨by rw [h1, List.length_map]; exact h2, fun k acc ρ2 => acc = ((xs.take k).filter p).map f ∧ ρ2 = wipeR own ρ1, ⟨by simp, rfl⟩, fun k d acc ρ2 hd hI => ?_, fun acc ρ2 hI => ?_⟩)
  · obtain ⟨rfl, rfl⟩ := hI
    rw [h1, List.getElem?_map] at hd
    cases ex : xs[k]? with
    | none => rw [ex] at hd; cases hd
    | some x =>
      rw [ex] at hd; cases hd
      have hk := (List.getElem?_eq_some_iff.mp ex).1
      have hx := (List.getElem?_eq_some_iff.mp ex).2
      have mem : x ∈ xs := hx ▸ List.getElem_mem hk
      have q0 := h3 x mem
      have tk : xs.take (k + 1) = xs.take k ++ [x] := by rw [List.take_add_one, ex]; rfl
      cases eg : g (enc x) (wipeR own ρ1) with
      | none => rw [eg] at q0; exact q0
      | some ρ2 =>
        rw [eg] at q0
        refine vM_mono (show vM tt ρ2 _ from q0) fun b ρ3 ⟨hb, q1⟩ => ?_
        subst hb
        by_cases hp : p x = true
        · rw [if_pos hp] at q1 ⊢
          refine vM_mono q1 fun r ρ4 q2 => vM_mono q2 fun y ρ5 ⟨e1, e2⟩ => ⟨?_, e2⟩
          rw [tk, List.filter_append, List.map_append, List.filter_cons, if_pos hp, e1]; rfl
        · rw [if_neg hp] at q1 ⊢
          refine ⟨?_, q1⟩
          rw [tk, List.filter_append, List.map_append, List.filter_cons, if_neg hp]; simp
  · obtain ⟨rfl, rfl⟩ := hI
    rw [h1, List.length_map, List.take_length]
    exact h4
theorem vM_wk {f : M Rs} {Q : Wk → List Sl → Prop} : vM (dWk f) ρ Q = vM f ρ fun r ρ1 => vM (dWk (pr r)) ρ1 Q := by
  unfold dWk; simp only [vM_bd, vM_pr]
end
end DL

/-! the rules over closed predicates (nothing unfolds them) -/
namespace DL
open PySem L2
structure wM {α : Type} (m : M α) (ρ : List Sl) (Q : α → List Sl → Prop) (_ : Tag Q := .mk) : Prop where
  run : vM m ρ Q
structure wO {α : Type} (o : Option α) (Q : α → Prop) (_ : Tag Q := .mk) : Prop where
  run : vO o Q
structure wS (s : DS) (ρ : List Sl) (N : List Sl → Prop) (T : Rs → List Sl → Prop) (B C : List Sl → Prop) (_ : Tag (N, T, B, C) := .mk) : Prop where
  run : vS s ρ N T B C
theorem wM_def {α : Type} (m : M α) (ρ : List Sl) (Q : α → List Sl → Prop) : wM m ρ Q = vM m ρ Q := propext ⟨fun h => h.run, fun h => ⟨h⟩⟩
theorem wO_def {α : Type} (o : Option α) (Q : α → Prop) : wO o Q = vO o Q := propext ⟨fun h => h.run, fun h => ⟨h⟩⟩
theorem wS_def (s : DS) (ρ : List Sl) (N : List Sl → Prop) (T : Rs → List Sl → Prop) (B C : List Sl → Prop) : wS s ρ N T B C = vS s ρ N T B C := propext ⟨fun h => h.run, fun h => ⟨h⟩⟩
section
variable {α β : Type} {ρ : List Sl} {N : List Sl → Prop} {T : Rs → List Sl → Prop} {B C : List Sl → Prop}
def mutK (o : Option Sl) (i : Nat) (c : D → Bool) (fr : Bool) (g : D → List D → Option (D × D)) (f : M (List Rs)) (ρ : List Sl) (Q : Rs → List Sl → Prop) (_ : Tag Q := .mk) : Prop := match o with
  | some (.ow d0) => c d0 = true ∧ wM f ρ fun rs ρ1 => wM (if fr = true then frzA rs else lookA rs) ρ1 fun ds ρ2 => match ρ2[i]? with
    | some (.ow d) => wO (g d ds) fun p => Q (.fz p.2) (ρ2.set i (.ow p.1))
    | _ => False
  | _ => False
theorem mutK_def (o : Option Sl) (i : Nat) (c : D → Bool) (fr : Bool) (g : D → List D → Option (D × D)) (f : M (List Rs)) (ρ : List Sl) (Q : Rs → List Sl → Prop) : mutK o i c fr g f ρ Q = v_mutK o i c fr g f ρ Q := by
  unfold mutK v_mutK
  simp only [wM_def, wO_def] <;> rfl
def putK' (o : Option Sl) (i : Nat) (k : Key) (dv : D) (ρ : List Sl) (N : List Sl → Prop) (_ : Tag N := .mk) : Prop := match o with
  | some (.ow d) => wO (gPut d (kD k) dv) fun d' => N (ρ.set i (.ow d'))
  | _ => False
theorem putK'_def (o : Option Sl) (i : Nat) (k : Key) (dv : D) (ρ : List Sl) (N : List Sl → Prop) : putK' o i k dv ρ N = v_putK' o i k dv ρ N := by
  unfold putK' v_putK'
  simp only [wO_def] <;> rfl
def getK (o : Option Sl) (k : Key) (Q : D → Prop) (_ : Tag Q := .mk) : Prop := match o with
  | some (.ow d) => wO (gGet d (kD k)) Q
  | _ => False
theorem getK_def (o : Option Sl) (k : Key) (Q : D → Prop) : getK o k Q = v_getK o k Q := by
  unfold getK v_getK
  simp only [wO_def] <;> rfl
theorem wM_iff {α : Type} {m : M α} {ρ : List Sl} {Q : α → List Sl → Prop} : wM m ρ Q ↔ ∃ a ρ', m ρ = .ok a ρ' ∧ Q a ρ' := by
  rw [wM_def]; exact vM_iff
theorem wM_eq {α : Type} {m : M α} {ρ ρ' : List Sl} {a : α} (h : wM m ρ fun b ρ1 => b = a ∧ ρ1 = ρ') : m ρ = .ok a ρ' := by
  rw [wM_def] at h; exact vM_eq h
theorem wM_mono {α : Type} {m : M α} {ρ : List Sl} {Q Q' : α → List Sl → Prop} (h : wM m ρ Q) (i : ∀ a ρ', Q a ρ' → Q' a ρ') : wM m ρ Q' := by
  rw [wM_def] at h ⊢; exact vM_mono h i
theorem wS_mono {s : DS} {ρ : List Sl} {N N' : List Sl → Prop} {T T' : Rs → List Sl → Prop} {B B' C C' : List Sl → Prop} (h : wS s ρ N T B C) (n : ∀ ρ, N ρ → N' ρ) (t : ∀ r ρ, T r ρ → T' r ρ) (b : ∀ ρ, B ρ → B' ρ) (c : ∀ ρ, C ρ → C' ρ) : wS s ρ N' T' B' C' := by
  rw [wS_def] at h ⊢; exact vS_mono h n t b c
theorem wM_bd {m : M α} {k : α → M β} {Q : β → List Sl → Prop} : wM (bd m k) ρ Q = wM m ρ fun a ρ1 => wM (k a) ρ1 Q := by
  simp only [wM_def, wO_def, wS_def, mutK_def, putK'_def, getK_def]; exact vM_bd
theorem wM_pr {a : α} {Q : α → List Sl → Prop} : wM (pr a) ρ Q = Q a ρ := by
  simp only [wM_def, wO_def, wS_def, mutK_def, putK'_def, getK_def]; exact vM_pr
theorem wM_opt {o : Option α} {Q : α → List Sl → Prop} : wM (opt o) ρ Q = wO o fun a => Q a ρ := by
  simp only [wM_def, wO_def, wS_def, mutK_def, putK'_def, getK_def]; exact vM_opt
theorem wO_some {a : α} {Q : α → Prop} : wO (some a) Q = Q a := by
  simp only [wM_def, wO_def, wS_def, mutK_def, putK'_def, getK_def]; exact vO_some
theorem wM_C {d : D} {Q : Rs → List Sl → Prop} : wM (dC d) ρ Q = Q (.fz d) ρ := by
  simp only [wM_def, wO_def, wS_def, mutK_def, putK'_def, getK_def]; exact vM_C
theorem wM_var {i : Nat} {Q : Rs → List Sl → Prop} : wM (dVar i) ρ Q = varK ρ[i]? i ρ Q := by
  simp only [wM_def, wO_def, wS_def, mutK_def, putK'_def, getK_def]; exact vM_var
theorem wM_look_fz {d : D} {Q : D → List Sl → Prop} : wM (look (.fz d)) ρ Q = Q d ρ := by
  simp only [wM_def, wO_def, wS_def, mutK_def, putK'_def, getK_def]; exact vM_look_fz
theorem wM_look_ow {d : D} {Q : D → List Sl → Prop} : wM (look (.ow d)) ρ Q = Q d ρ := by
  simp only [wM_def, wO_def, wS_def, mutK_def, putK'_def, getK_def]; exact vM_look_ow
theorem wM_look_nm {i : Nat} {Q : D → List Sl → Prop} : wM (look (.nm i)) ρ Q = lookK ρ[i]? ρ Q := by
  simp only [wM_def, wO_def, wS_def, mutK_def, putK'_def, getK_def]; exact vM_look_nm
theorem wM_frz_fz {d : D} {Q : D → List Sl → Prop} : wM (frz (.fz d)) ρ Q = Q d ρ := by
  simp only [wM_def, wO_def, wS_def, mutK_def, putK'_def, getK_def]; exact vM_frz_fz
theorem wM_frz_ow {d : D} {Q : D → List Sl → Prop} : wM (frz (.ow d)) ρ Q = Q d ρ := by
  simp only [wM_def, wO_def, wS_def, mutK_def, putK'_def, getK_def]; exact vM_frz_ow
theorem wM_frz_nm {i : Nat} {Q : D → List Sl → Prop} : wM (frz (.nm i)) ρ Q = frzK ρ[i]? i ρ Q := by
  simp only [wM_def, wO_def, wS_def, mutK_def, putK'_def, getK_def]; exact vM_frz_nm
theorem wM_op2 {g : G2} {a b : M Rs} {Q : Rs → List Sl → Prop} : wM (dOp2 g a b) ρ Q = wM a ρ fun ra ρ1 => wM b ρ1 fun rb ρ2 => wM (look ra) ρ2 fun da ρ3 => wM (look rb) ρ3 fun db ρ4 => wO (g da db) fun r => Q r ρ4 := by
  simp only [wM_def, wO_def, wS_def, mutK_def, putK'_def, getK_def]; exact vM_op2
theorem wM_op2T {g : D → D → Option Bool} {a b : M Rs} {Q : Bool → List Sl → Prop} : wM (dOp2T g a b) ρ Q = wM a ρ fun ra ρ1 => wM b ρ1 fun rb ρ2 => wM (look ra) ρ2 fun da ρ3 => wM (look rb) ρ3 fun db ρ4 => wO (g da db) fun r => Q r ρ4 := by
  simp only [wM_def, wO_def, wS_def, mutK_def, putK'_def, getK_def]; exact vM_op2T
theorem wO_gB {g : D → D → Option Bool} {x y : D} {Q : Rs → Prop} : wO (gB g x y) Q = wO (g x y) fun k => Q (.fz (.bool k)) := by
  simp only [wM_def, wO_def, wS_def, mutK_def, putK'_def, getK_def]; exact vO_gB
theorem wM_op1 {g : D → Option Rs} {a : M Rs} {Q : Rs → List Sl → Prop} : wM (dOp1 g a) ρ Q = wM a ρ fun ra ρ1 => wM (look ra) ρ1 fun da ρ2 => wO (g da) fun r => Q r ρ2 := by
  simp only [wM_def, wO_def, wS_def, mutK_def, putK'_def, getK_def]; exact vM_op1
theorem wM_nil {Q : List Rs → List Sl → Prop} : wM dNil ρ Q = Q [] ρ := by
  simp only [wM_def, wO_def, wS_def, mutK_def, putK'_def, getK_def]; exact vM_nil
theorem wM_cons {f : M Rs} {g : M (List Rs)} {Q : List Rs → List Sl → Prop} : wM (dCons f g) ρ Q = wM f ρ fun r ρ1 => wM g ρ1 fun rs ρ2 => Q (r :: rs) ρ2 := by
  simp only [wM_def, wO_def, wS_def, mutK_def, putK'_def, getK_def]; exact vM_cons
theorem wM_frzA0 {Q : List D → List Sl → Prop} : wM (frzA []) ρ Q = Q [] ρ := by
  simp only [wM_def, wO_def, wS_def, mutK_def, putK'_def, getK_def]; exact vM_frzA0
theorem wM_frzA {r : Rs} {rs : List Rs} {Q : List D → List Sl → Prop} : wM (frzA (r :: rs)) ρ Q = wM (frz r) ρ fun d ρ1 => wM (frzA rs) ρ1 fun ds ρ2 => Q (d :: ds) ρ2 := by
  simp only [wM_def, wO_def, wS_def, mutK_def, putK'_def, getK_def]; exact vM_frzA
theorem wM_lookA0 {Q : List D → List Sl → Prop} : wM (lookA []) ρ Q = Q [] ρ := by
  simp only [wM_def, wO_def, wS_def, mutK_def, putK'_def, getK_def]; exact vM_lookA0
theorem wM_lookA {r : Rs} {rs : List Rs} {Q : List D → List Sl → Prop} : wM (lookA (r :: rs)) ρ Q = wM (look r) ρ fun d ρ1 => wM (lookA rs) ρ1 fun ds ρ2 => Q (d :: ds) ρ2 := by
  simp only [wM_def, wO_def, wS_def, mutK_def, putK'_def, getK_def]; exact vM_lookA
theorem wM_tup {f : M (List Rs)} {Q : Rs → List Sl → Prop} : wM (dTup f) ρ Q = wM f ρ fun rs ρ1 => wM (frzA rs) ρ1 fun ds ρ2 => ds.length ≤ 1000 ∧ Q (.fz (.tuple ds)) ρ2 := by
  simp only [wM_def, wO_def, wS_def, mutK_def, putK'_def, getK_def]; exact vM_tup
theorem wM_lst {f : M (List Rs)} {Q : Rs → List Sl → Prop} : wM (dLst f) ρ Q = wM f ρ fun rs ρ1 => wM (frzA rs) ρ1 fun ds ρ2 => ds.length ≤ 1000 ∧ Q (.ow (.list ds)) ρ2 := by
  simp only [wM_def, wO_def, wS_def, mutK_def, putK'_def, getK_def]; exact vM_lst
theorem wM_B {g : List D → Option Rs} {f : M (List Rs)} {Q : Rs → List Sl → Prop} : wM (dB g f) ρ Q = wM f ρ fun rs ρ1 => wM (lookA rs) ρ1 fun ds ρ2 => wO (g ds) fun r => Q r ρ2 := by
  simp only [wM_def, wO_def, wS_def, mutK_def, putK'_def, getK_def]; exact vM_B
theorem wM_isi {T : Ty} {f : M Rs} {Q : Rs → List Sl → Prop} : wM (dIsi T f) ρ Q = wM f ρ fun r ρ1 => wM (look r) ρ1 fun d ρ2 => Q (.fz (.bool (isT T d))) ρ2 := by
  simp only [wM_def, wO_def, wS_def, mutK_def, putK'_def, getK_def]; exact vM_isi
theorem wM_me {c : D → Bool} {g : D → List D → Option Rs} {fo : M Rs} {fa : M (List Rs)} {Q : Rs → List Sl → Prop} : wM (dMe c g fo fa) ρ Q = wM fo ρ fun ro ρ1 => wM (look ro) ρ1 fun d0 ρ2 => c d0 = true ∧ wM fa ρ2 fun rs ρ3 => wM (look ro) ρ3 fun d ρ4 => wM (lookA rs) ρ4 fun ds ρ5 => wO (g d ds) fun r => Q r ρ5 := by
  simp only [wM_def, wO_def, wS_def, mutK_def, putK'_def, getK_def]; exact vM_me
theorem wM_sl {fa : M Rs} {fl fh : M (Option Int)} {Q : Rs → List Sl → Prop} : wM (dSl fa fl fh) ρ Q = wM fa ρ fun ra ρ1 => wM fl ρ1 fun l ρ2 => wM fh ρ2 fun h ρ3 => wM (look ra) ρ3 fun d ρ4 => wO (gSl d l h) fun r => Q r ρ4 := by
  simp only [wM_def, wO_def, wS_def, mutK_def, putK'_def, getK_def]; exact vM_sl
theorem wM_noP {Q : Option Int → List Sl → Prop} : wM dNoP ρ Q = Q none ρ := by
  simp only [wM_def, wO_def, wS_def, mutK_def, putK'_def, getK_def]; exact vM_noP
theorem wM_part {f : M Rs} {Q : Option Int → List Sl → Prop} : wM (dPart f) ρ Q = wM f ρ fun r ρ1 => wM (look r) ρ1 fun d ρ2 => wO (intD d) fun i => Q i ρ2 := by
  simp only [wM_def, wO_def, wS_def, mutK_def, putK'_def, getK_def]; exact vM_part
theorem wM_key {f : M Rs} {Q : Key → List Sl → Prop} : wM (dKey f) ρ Q = wM f ρ fun r ρ1 => wM (look r) ρ1 fun d ρ2 => wO (keyOf d) fun k => Q k ρ2 := by
  simp only [wM_def, wO_def, wS_def, mutK_def, putK'_def, getK_def]; exact vM_key
theorem wM_call {ls : List Bool} {sem : M Rs} {f : M (List Rs)} {Q : Rs → List Sl → Prop} : wM (dCall ls sem f) ρ Q = wM f ρ fun rs ρ1 => wM (argSA ls rs) ρ1 fun rs' ρ2 => (nmOk rs' && rs'.all (heldR ρ2)) = true ∧ callK sem rs' ρ2 Q := by
  simp only [wM_def, wO_def, wS_def, mutK_def, putK'_def, getK_def]; exact vM_call
theorem wM_argSA0 {Q : List Rs → List Sl → Prop} : wM (argSA [] []) ρ Q = Q [] ρ := by
  simp only [wM_def, wO_def, wS_def, mutK_def, putK'_def, getK_def]; exact vM_argSA0
theorem wM_argSA {l : Bool} {ls : List Bool} {r : Rs} {rs : List Rs} {Q : List Rs → List Sl → Prop} : wM (argSA (l :: ls) (r :: rs)) ρ Q = wM (argS l r) ρ fun r' ρ1 => wM (argSA ls rs) ρ1 fun rs' ρ2 => Q (r' :: rs') ρ2 := by
  simp only [wM_def, wO_def, wS_def, mutK_def, putK'_def, getK_def]; exact vM_argSA
theorem wM_argS_fz {l : Bool} {d : D} {Q : Rs → List Sl → Prop} : wM (argS l (.fz d)) ρ Q = Q (.fz d) ρ := by
  simp only [wM_def, wO_def, wS_def, mutK_def, putK'_def, getK_def]; exact vM_argS_fz
theorem wM_argS_ow {l : Bool} {d : D} {Q : Rs → List Sl → Prop} : wM (argS l (.ow d)) ρ Q = Q (.ow d) ρ := by
  simp only [wM_def, wO_def, wS_def, mutK_def, putK'_def, getK_def]; exact vM_argS_ow
theorem wM_argS_nm {l : Bool} {i : Nat} {Q : Rs → List Sl → Prop} : wM (argS l (.nm i)) ρ Q = argK ρ[i]? l i ρ Q := by
  simp only [wM_def, wO_def, wS_def, mutK_def, putK'_def, getK_def]; exact vM_argS_nm
theorem wM_mut {i : Nat} {c : D → Bool} {fr : Bool} {g : D → List D → Option (D × D)} {f : M (List Rs)} {Q : Rs → List Sl → Prop} : wM (dMut i c fr g f) ρ Q = mutK ρ[i]? i c fr g f ρ Q := by
  simp only [wM_def, wO_def, wS_def, mutK_def, putK'_def, getK_def]; exact vM_mut
theorem wM_yes {Q : Bool → List Sl → Prop} : wM dYes ρ Q = Q true ρ := by
  simp only [wM_def, wO_def, wS_def, mutK_def, putK'_def, getK_def]; exact vM_yes
theorem wS_seq {f g : DS} : wS (dSeq f g) ρ N T B C = wS f ρ (fun ρ1 => wS g ρ1 N T B C) T B C := by
  simp only [wM_def, wO_def, wS_def, mutK_def, putK'_def, getK_def]; exact vS_seq
theorem wS_pass : wS dPass ρ N T B C = N ρ := by
  simp only [wM_def, wO_def, wS_def, mutK_def, putK'_def, getK_def]; exact vS_pass
theorem wS_brk : wS dBrk ρ N T B C = B ρ := by
  simp only [wM_def, wO_def, wS_def, mutK_def, putK'_def, getK_def]; exact vS_brk
theorem wS_cnt : wS dCnt ρ N T B C = C ρ := by
  simp only [wM_def, wO_def, wS_def, mutK_def, putK'_def, getK_def]; exact vS_cnt
theorem wS_ret {f : M Rs} : wS (dRet f) ρ N T B C = wM f ρ T := by
  simp only [wM_def, wO_def, wS_def, mutK_def, putK'_def, getK_def]; exact vS_ret
theorem wS_drop {f : M Rs} : wS (dDrop f) ρ N T B C = wM f ρ fun _ ρ1 => N ρ1 := by
  simp only [wM_def, wO_def, wS_def, mutK_def, putK'_def, getK_def]; exact vS_drop
theorem wS_if {c : M Bool} {f g : DS} : wS (dIf c f g) ρ N T B C = wM c ρ fun b ρ1 => if b = true then wS f ρ1 N T B C else wS g ρ1 N T B C := by
  simp only [wM_def, wO_def, wS_def, mutK_def, putK'_def, getK_def]; exact vS_if
theorem wS_set {i : Nat} {f : M Rs} : wS (dSet i f) ρ N T B C = wM f ρ fun r ρ1 => wO (setR i r ρ1) N := by
  simp only [wM_def, wO_def, wS_def, mutK_def, putK'_def, getK_def]; exact vS_set
theorem wS_asg {g : DG} {f : M Rs} : wS (dAsg g f) ρ N T B C = wM f ρ fun r ρ1 => wM (frz r) ρ1 fun d ρ2 => wO (g d ρ2) N := by
  simp only [wM_def, wO_def, wS_def, mutK_def, putK'_def, getK_def]; exact vS_asg
theorem wS_par {is : List Nat} {f : M (List Rs)} : wS (dPar is f) ρ N T B C = wM f ρ fun rs ρ1 => wM (argSA (is.map fun _ => false) rs) ρ1 fun rs' ρ2 => wO (setQs is rs' ρ2) N := by
  simp only [wM_def, wO_def, wS_def, mutK_def, putK'_def, getK_def]; exact vS_par
theorem wS_put {i : Nat} {fi fe : M Rs} : wS (dPut i fi fe) ρ N T B C = wM fe ρ fun r ρ1 => wM (frz r) ρ1 fun dv ρ2 => isOw ρ2[i]? = true ∧ wM (dKey fi) ρ2 fun k ρ3 => putK' ρ3[i]? i k dv ρ3 N := by
  simp only [wM_def, wO_def, wS_def, mutK_def, putK'_def, getK_def]; exact vS_put
theorem wS_augS {g : G2} {i : Nat} {fi fe : M Rs} : wS (dAugS g i fi fe) ρ N T B C = (isOw ρ[i]? = true ∧ wM (dKey fi) ρ fun k ρ1 => getK ρ1[i]? k fun old => wM fe ρ1 fun r ρ2 => wM (look r) ρ2 fun dv ρ3 => wO (fzO (g old dv)) fun dn => putK' ρ3[i]? i k dn ρ3 N) := by
  simp only [wM_def, wO_def, wS_def, mutK_def, putK'_def, getK_def]; exact vS_augS
theorem wS_aug {g : G2} {i : Nat} {fe : M Rs} : wS (dAug g i fe) ρ N T B C = augK ρ[i]? fun d => wM fe ρ fun r ρ1 => wM (look r) ρ1 fun dv ρ2 => wO (fzO (g d dv)) fun dn => wO (setR i (.fz dn) ρ2) N := by
  rw [wS_def, vS_aug]
  have e : (fun d => wM fe ρ fun r ρ1 => wM (look r) ρ1 fun dv ρ2 => wO (fzO (g d dv)) fun dn => wO (setR i (.fz dn) ρ2) N) = fun d => vM fe ρ fun r ρ1 => vM (look r) ρ1 fun dv ρ2 => vO (fzO (g d dv)) fun dn => vO (setR i (.fz dn) ρ2) N := by
    funext d; simp only [wM_def, wO_def]
  rw [e]
theorem wS_for {w : M Wk} {g : DG} {body : DS} (h : wM w ρ fun p ρ1 => ∃ I : Nat → List Sl → Prop, I 0 ρ1 ∧ (∀ k d ρ, p.1[k]? = some d → I k ρ → wO (g d ρ) fun ρ2 => wS body ρ2 (I (k + 1)) (fun r ρ => T r (unl p.2 ρ)) (fun ρ => N (unl p.2 ρ)) (I (k + 1))) ∧ ∀ ρ, I p.1.length ρ → N (unl p.2 ρ)) :
    wS (dFor w g body) ρ N T B C := by
  simp only [wM_def, wO_def, wS_def, mutK_def, putK'_def, getK_def] at h ⊢; exact vS_for h
theorem wS_while {c : M Bool} {body : DS} (I : Nat → List Sl → Prop) {N : List Sl → Prop} (st : ∀ m ρ, I m ρ → wM c ρ fun b ρ1 => if b = true then wS body ρ1 (fun ρ => ∃ m', m' < m ∧ I m' ρ) T N (fun ρ => ∃ m', m' < m ∧ I m' ρ) else N ρ1) : ∀ (m n : Nat) (ρ : List Sl), m < n → I m ρ → wS (dWhile n c body) ρ N T B C := by
  simp only [wM_def, wO_def, wS_def, mutK_def, putK'_def, getK_def] at st ⊢; exact vS_while I st
theorem wM_lc {own : List Nat} {w : M Wk} {g : DG} {tt : M Bool} {te : M Rs} {Q : Rs → List Sl → Prop} (h : wM w ρ fun p ρ1 => p.1.length ≤ sizeLine ∧ ∃ I : Nat → List D → List Sl → Prop, I 0 [] (wipeR own ρ1) ∧
    (∀ k d acc ρ, p.1[k]? = some d → I k acc ρ → wO (g d ρ) fun ρ1 => wM tt ρ1 fun b ρ2 => if b = true then wM te ρ2 fun r ρ3 => wM (frz r) ρ3 fun x ρ4 => I (k + 1) (acc ++ [x]) (wipeR own ρ4) else I (k + 1) acc (wipeR own ρ2)) ∧
    ∀ acc ρ2, I p.1.length acc ρ2 → Q (.ow (.list acc)) (unl p.2 (restore own ρ1 ρ2))) : wM (dLc own w g tt te) ρ Q := by
  simp only [wM_def, wO_def, wS_def, mutK_def, putK'_def, getK_def] at h ⊢; exact vM_lc h
theorem wM_lcMap {α : Type} {own : List Nat} {w : M Wk} {g : DG} {tt : M Bool} {te : M Rs} {Q : Rs → List Sl → Prop} (enc : α → D) (xs : List α) (p : α → Bool) (f : α → D) (h : wM w ρ fun q ρ1 => q.1 = xs.map enc ∧ xs.length ≤ sizeLine ∧
    (∀ x ∈ xs, wO (g (enc x) (wipeR own ρ1)) fun ρ2 => wM tt ρ2 fun b ρ3 => b = p x ∧ if b = true then wM te ρ3 fun r ρ4 => wM (frz r) ρ4 fun y ρ5 => y = f x ∧ wipeR own ρ5 = wipeR own ρ1 else wipeR own ρ3 = wipeR own ρ1) ∧
    Q (.ow (.list ((xs.filter p).map f))) (unl q.2 (restore own ρ1 (wipeR own ρ1)))) : wM (dLc own w g tt te) ρ Q := by
  simp only [wM_def, wO_def, wS_def, mutK_def, putK'_def, getK_def] at h ⊢; exact vM_lcMap enc xs p f h
theorem mutK_ow {i : Nat} {c : D → Bool} {fr : Bool} {g : D → List D → Option (D × D)} {f : M (List Rs)} {Q : Rs → List Sl → Prop} {d0 : D} : True := trivial
theorem putK'_ow {i : Nat} {k : Key} {dv d : D} : putK' (some (.ow d)) i k dv ρ N = wO (gPut d (kD k) dv) fun d' => N (ρ.set i (.ow d')) := rfl
theorem getK_ow {k : Key} {d : D} {Q : D → Prop} : getK (some (.ow d)) k Q = wO (gGet d (kD k)) Q := rfl
theorem wM_def' {m : M α} {Q : α → List Sl → Prop} (h : vM m ρ Q) : wM m ρ Q := ⟨h⟩
end
end DL

namespace DL
open PySem L2
/-! ### the reckoning of data -/
section
variable {i j : Int} {x y : Str} {ds es : List D} {d e : D} {n : Nat}
theorem gAdd_ii : gAdd (.int i) (.int j) = some (.fz (.int (i + j))) := rfl
theorem gAdd_ss (h : x.length + y.length ≤ sizeLine) : gAdd (.str x) (.str y) = some (.fz (.str (x ++ y))) := if_pos h
theorem gAdd_ll (h : ds.length + es.length ≤ sizeLine) : gAdd (.list ds) (.list es) = some (.ow (.list (ds ++ es))) := if_pos h
theorem gAdd_tt (h : ds.length + es.length ≤ sizeLine) : gAdd (.tuple ds) (.tuple es) = some (.fz (.tuple (ds ++ es))) := if_pos h
theorem gSub_ii : gSub (.int i) (.int j) = some (.fz (.int (i - j))) := rfl
theorem gMul_l (h1 : -18446744073709551616 < i) (h2 : i < 18446744073709551616) : gMul (.int i) (.int j) = some (.fz (.int (i * j))) := if_pos (by unfold mulOk; rw [Bool.or_eq_true, decide_eq_true_eq]; exact .inl ⟨h1, h2⟩)
theorem gMul_r (h1 : -18446744073709551616 < j) (h2 : j < 18446744073709551616) : gMul (.int i) (.int j) = some (.fz (.int (i * j))) := if_pos (by unfold mulOk; rw [Bool.or_eq_true, decide_eq_true_eq, decide_eq_true_eq]; exact .inr ⟨h1, h2⟩)
theorem gDiv_ii (h1 : 0 < j) (h2 : j < 1073741824) : gDiv (.int i) (.int j) = some (.fz (.int (i / j))) := if_pos ⟨h1, h2⟩
theorem gMod_ii (h1 : 0 < j) : gMod (.int i) (.int j) = some (.fz (.int (i % j))) := if_pos h1
theorem gNeg_i : gNeg (.int i) = some (.fz (.int (-i))) := rfl
theorem gPow_ii (h1 : 0 ≤ j) (h2 : j ≤ 1000000) (h3 : i.natAbs < 18446744073709551616) : gPow (.int i) (.int j) = some (.fz (.int (i ^ j.toNat))) := if_pos ⟨h1, h2, h3⟩
theorem gPow_18 : gPow (.int 10) (.int 18) = some (.fz (.int 1000000000000000000)) := by
  rw [gPow_ii (by decide) (by decide) (by decide)]; rfl
theorem gEq_ii : gEq (.int i) (.int j) = some (decide (i = j)) := by
  show some (i == j) = _
  rw [show (i == j) = decide (i = j) from rfl]
theorem gEq_ss : gEq (.str x) (.str y) = some (decide (x = y)) := by
  show some (x == y) = _
  by_cases h : x = y
  · subst h; simp
  · rw [decide_eq_false h]; simpa using h
theorem gEq_bb {a b : Bool} : gEq (.bool a) (.bool b) = some (decide (a = b)) := by
  show some (a == b) = _
  cases a <;> cases b <;> rfl
theorem gNe_of {b : Bool} (h : gEq d e = some b) : gNe d e = some (!b) := by unfold gNe; rw [h]; rfl
theorem gNe_ii : gNe (.int i) (.int j) = some (!decide (i = j)) := gNe_of gEq_ii
theorem gNe_ss : gNe (.str x) (.str y) = some (!decide (x = y)) := gNe_of gEq_ss
theorem gLt_ii : gLt (.int i) (.int j) = some (decide (i < j)) := rfl
theorem gLe_ii : gLe (.int i) (.int j) = some (decide (i ≤ j)) := rfl
theorem gGt_ii : gGt (.int i) (.int j) = some (decide (j < i)) := rfl
theorem gGe_ii : gGe (.int i) (.int j) = some (decide (j ≤ i)) := rfl
theorem atI_of (h0 : 0 ≤ i) (h : ds[i.toNat]? = some d) : atI ds i = some d := by
  have e := atI_nat (xs := ds) (j := i.toNat) h
  rw [Int.toNat_of_nonneg h0] at e; exact e
theorem gIx_l (h0 : 0 ≤ i) (h : ds[i.toNat]? = some d) : gIx (.list ds) (.int i) = some (.fz d) := by
  show (atI ds i).map _ = _
  rw [atI_of h0 h]; rfl
theorem gIx_t (h0 : 0 ≤ i) (h : ds[i.toNat]? = some d) : gIx (.tuple ds) (.int i) = some (.fz d) := by
  show (atI ds i).map _ = _
  rw [atI_of h0 h]; rfl
theorem gIx_l0 : gIx (.list (d :: ds)) (.int 0) = some (.fz d) := gIx_l (by decide) rfl
theorem gIx_t0 : gIx (.tuple (d :: ds)) (.int 0) = some (.fz d) := gIx_t (by decide) rfl
theorem gIx_l1 {d1 : D} : gIx (.list (d :: d1 :: ds)) (.int 1) = some (.fz d1) := gIx_l (by decide) rfl
theorem gIx_t1 {d1 : D} : gIx (.tuple (d :: d1 :: ds)) (.int 1) = some (.fz d1) := gIx_t (by decide) rfl
theorem gIx_l2 {d1 d2 : D} : gIx (.list (d :: d1 :: d2 :: ds)) (.int 2) = some (.fz d2) := gIx_l (by decide) rfl
theorem gIx_t2 {d1 d2 : D} : gIx (.tuple (d :: d1 :: d2 :: ds)) (.int 2) = some (.fz d2) := gIx_t (by decide) rfl
theorem gIx_t3 {d1 d2 d3 : D} : gIx (.tuple (d :: d1 :: d2 :: d3 :: ds)) (.int 3) = some (.fz d3) := gIx_t (by decide) rfl
theorem gIx_lm {α : Type} {f : α → D} {xs : List α} {k : Nat} (h : k < xs.length) : gIx (.list (xs.map f)) (.int (k : Int)) = some (.fz (f xs[k])) := gIx_l (by omega) (by rw [List.getElem?_map, Int.toNat_natCast, List.getElem?_eq_getElem h]; rfl)
theorem gIx_tm {α : Type} {f : α → D} {xs : List α} {k : Nat} (h : k < xs.length) : gIx (.tuple (xs.map f)) (.int (k : Int)) = some (.fz (f xs[k])) := gIx_t (by omega) (by rw [List.getElem?_map, Int.toNat_natCast, List.getElem?_eq_getElem h]; rfl)
theorem gIx_lz {xs : List D} : gIx (.list (xs ++ [d])) (.int (-1)) = some (.fz d) := by
  show (atI (xs ++ [d]) (-1)).map _ = _
  rw [atI_last]; rfl
theorem gLen_l : gLen [.list ds] = some (.fz (.int (ds.length : Nat))) := rfl
theorem gLen_t : gLen [.tuple ds] = some (.fz (.int (ds.length : Nat))) := rfl
theorem gLen_d {kvs : List (D × D)} : gLen [.dict kvs] = some (.fz (.int (kvs.length : Nat))) := rfl
theorem gAbs_i : gAbs [.int i] = some (.fz (.int (if i < 0 then -i else i))) := rfl
theorem gInt_i : gInt [.int i] = some (.fz (.int i)) := rfl
theorem gTuple_l : gTuple [.list ds] = some (.fz (.tuple ds)) := rfl
theorem gTuple_t : gTuple [.tuple ds] = some (.fz (.tuple ds)) := rfl
theorem gList_l : gList [.list ds] = some (.ow (.list ds)) := rfl
theorem gList_t : gList [.tuple ds] = some (.ow (.list ds)) := rfl
theorem gAppend_l (h : ds.length < sizeLine) : gAppend (.list ds) [d] = some (.list (ds ++ [d]), .none) := if_pos h
theorem gExtend_l (h : ds.length + es.length ≤ sizeLine) : gExtend (.list ds) [.list es] = some (.list (ds ++ es), .none) := if_pos h
theorem gMax_ii : gMax [.int i, .int j] = some (.fz (.int (max i j))) := by
  show some (Rs.fz (PyData.int (if j > i then j else i))) = _
  congr 3
  split <;> omega
theorem gMin_ii : gMin [.int i, .int j] = some (.fz (.int (min i j))) := by
  show some (Rs.fz (PyData.int (if j < i then j else i))) = _
  congr 3
  split <;> omega
theorem gMax_l {ns : List Int} (h : ns ≠ []) : gMax [.list (ns.map .int)] = some (.fz (.int (maxL ns))) := by
  show (intsOf (ns.map .int)).bind _ = _
  rw [intsOf_map]; exact if_neg h
theorem gMin_l {ns : List Int} (h : ns ≠ []) : gMin [.list (ns.map .int)] = some (.fz (.int (minL ns))) := by
  show (intsOf (ns.map .int)).bind _ = _
  rw [intsOf_map]; exact if_neg h
theorem gSum_l {ns : List Int} : gSum [.list (ns.map .int)] = some (.fz (.int ns.sum)) := by
  show (intsOf (ns.map .int)).map _ = _
  rw [intsOf_map]; rfl
theorem gAll_l {ns : List Bool} : gAll [.list (ns.map .bool)] = some (.fz (.bool (ns.all id))) := by
  show (boolsOf (ns.map .bool)).map _ = _
  rw [boolsOf_map]; rfl
theorem gAny_l {ns : List Bool} : gAny [.list (ns.map .bool)] = some (.fz (.bool (ns.any id))) := by
  show (boolsOf (ns.map .bool)).map _ = _
  rw [boolsOf_map]; rfl
theorem gIs_none : gIs d .none = some (isNone d) := by
  cases d <;> rfl
end
/-! ### rules with folded continuations -/
section
variable {ρ : List Sl} {N : List Sl → Prop} {T : Rs → List Sl → Prop} {B C : List Sl → Prop}
def mutO (o : Option Sl) (i : Nat) (g : D → List D → Option (D × D)) (ds : List D) (ρ : List Sl) (Q : Rs → List Sl → Prop) (_ : Tag Q := .mk) : Prop := match o with
  | some (.ow d) => wO (g d ds) fun p => Q (.fz p.2) (ρ.set i (.ow p.1))
  | _ => False
theorem mutK_ow' {i : Nat} {c : D → Bool} {fr : Bool} {g : D → List D → Option (D × D)} {f : M (List Rs)} {Q : Rs → List Sl → Prop} {d0 : D} : mutK (some (.ow d0)) i c fr g f ρ Q = (c d0 = true ∧ wM f ρ fun rs ρ1 => wM (if fr = true then frzA rs else lookA rs) ρ1 fun ds ρ2 => mutO ρ2[i]? i g ds ρ2 Q) := rfl
theorem mutO_ow {i : Nat} {g : D → List D → Option (D × D)} {ds : List D} {d : D} {Q : Rs → List Sl → Prop} : mutO (some (.ow d)) i g ds ρ Q = wO (g d ds) fun p => Q (.fz p.2) (ρ.set i (.ow p.1)) := rfl
def retK (ms : List Bool) (Q : Rs → List Sl → Prop) (r : Rs) (ρ : List Sl) (_ : Tag Q := .mk) : Prop := match r with
  | .fz d => Q (.fz d) (outP ms ρ)
  | .ow d => Q (.ow d) (outP ms ρ)
  | .nm i => match ρ[i]? with
    | some (.fz d) => Q (.fz d) (outP ms ρ)
    | some (.ow d) => if ms.length ≤ i then Q (.ow d) (outP ms ρ) else Q (.fz d) (outP ms (ρ.set i (.fz d)))
    | some (.lk d) => Q (.fz d) (outP ms (ρ.set i (.fz d)))
    | _ => False
def retO (o : Option Sl) (i : Nat) (ms : List Bool) (Q : Rs → List Sl → Prop) (ρ : List Sl) (_ : Tag Q := .mk) : Prop := match o with
    | some (.fz d) => Q (.fz d) (outP ms ρ)
    | some (.ow d) => if ms.length ≤ i then Q (.ow d) (outP ms ρ) else Q (.fz d) (outP ms (ρ.set i (.fz d)))
    | some (.lk d) => Q (.fz d) (outP ms (ρ.set i (.fz d)))
    | _ => False
variable {ms : List Bool} {Q : Rs → List Sl → Prop} {d : D} {i : Nat}
theorem retK_fz : retK ms Q (.fz d) ρ = Q (.fz d) (outP ms ρ) := rfl
theorem retK_ow : retK ms Q (.ow d) ρ = Q (.ow d) (outP ms ρ) := rfl
theorem retK_nm : retK ms Q (.nm i) ρ = retO ρ[i]? i ms Q ρ := rfl
theorem retO_fz : retO (some (.fz d)) i ms Q ρ = Q (.fz d) (outP ms ρ) := rfl
theorem retO_ow : retO (some (.ow d)) i ms Q ρ = if ms.length ≤ i then Q (.ow d) (outP ms ρ) else Q (.fz d) (outP ms (ρ.set i (.fz d))) := rfl
theorem retO_lk : retO (some (.lk d)) i ms Q ρ = Q (.fz d) (outP ms (ρ.set i (.fz d))) := rfl
theorem wM_run' {n : Nat} {body : DS} : wM (runDef ms n body) ρ Q = wS body (ρ ++ List.replicate (n - ρ.length) .em) (fun ρ' => Q (.fz .none) (outP ms ρ')) (retK ms Q) nope nope := by
  rw [wM_def, wS_def]; exact vM_run
/-- a spec by an equation -/
theorem run_eq {n : Nat} {body : DS} {r : Rs} {out : List Sl} (h : wS body (ρ ++ List.replicate (n - ρ.length) .em) (fun ρ' => .fz .none = r ∧ outP ms ρ' = out) (retK ms fun b ρ1 => b = r ∧ ρ1 = out) nope nope) : runDef ms n body ρ = .ok r out :=
  wM_eq (by rw [wM_run']; exact h)
theorem setR_fz (h : i < ρ.length) : setR i (.fz d) ρ = some (ρ.set i (.fz d)) := if_pos h
theorem setR_ow (h : i < ρ.length) : setR i (.ow d) ρ = some (ρ.set i (.ow d)) := if_pos h
def setK (o : Option Sl) (i j : Nat) (ρ : List Sl) : Option (List Sl) := match o with
  | some (.fz d) => if i < ρ.length then some (ρ.set i (.fz d)) else none
  | some (.ow d) => if i < ρ.length then some ((ρ.set j (.fz d)).set i (.fz d)) else none
  | some (.lk d) => if i < ρ.length then some ((ρ.set j (.fz d)).set i (.fz d)) else none
  | _ => none
theorem setR_nm {j : Nat} : setR i (.nm j) ρ = setK ρ[j]? i j ρ := by
  unfold setR setK frz
  simp only
  cases ρ[j]? with
  | none => simp
  | some s => cases s <;> simp
theorem setK_fz {j : Nat} (h : i < ρ.length) : setK (some (.fz d)) i j ρ = some (ρ.set i (.fz d)) := if_pos h
theorem setK_ow {j : Nat} (h : i < ρ.length) : setK (some (.ow d)) i j ρ = some ((ρ.set j (.fz d)).set i (.fz d)) := if_pos h
theorem setK_lk {j : Nat} (h : i < ρ.length) : setK (some (.lk d)) i j ρ = some ((ρ.set j (.fz d)).set i (.fz d)) := if_pos h
theorem gN_ok (h : i < ρ.length) : gN i d ρ = some (ρ.set i (.fz d)) := if_pos h
theorem wO_gsC {g : DG} {gs : DGs} {ds : List D} : wO (gsC g gs (d :: ds) ρ) N = wO (g d ρ) fun ρ1 => wO (gs ds ρ1) N := by
  rw [wO_def, wO_def]
  show vO (match g d ρ with | some ρ' => gs ds ρ' | none => none) N = _
  cases g d ρ with
  | none => rfl
  | some ρ1 => show _ = wO _ _; rw [wO_def]
theorem gT_ok {gs : DGs} {ds : List D} {n : Nat} (h : ds.length = n) : gT n gs (.tuple ds) ρ = gs ds ρ := if_pos h
theorem gsN_ok : gsN [] ρ = some ρ := rfl
theorem setQs_nil : setQs [] [] ρ = some ρ := rfl
theorem setQs_fz {is : List Nat} {rs : List Rs} (h : i < ρ.length) : setQs (i :: is) (.fz d :: rs) ρ = setQs is rs (ρ.set i (.fz d)) := by
  show (match setQ i (.fz d) ρ with | some ρ' => setQs is rs ρ' | none => none) = _
  rw [show setQ i (.fz d) ρ = some (ρ.set i (.fz d)) from if_pos h]
theorem setQs_ow {is : List Nat} {rs : List Rs} (h : i < ρ.length) : setQs (i :: is) (.ow d :: rs) ρ = setQs is rs (ρ.set i (.ow d)) := by
  show (match setQ i (.ow d) ρ with | some ρ' => setQs is rs ρ' | none => none) = _
  rw [show setQ i (.ow d) ρ = some (ρ.set i (.ow d)) from if_pos h]
theorem outP_t {bs : List Bool} {s : Sl} {ss : List Sl} : outP (true :: bs) (s :: ss) = s :: outP bs ss := rfl
theorem outP_f {bs : List Bool} {s : Sl} {ss : List Sl} : outP (false :: bs) (s :: ss) = .em :: outP bs ss := rfl
theorem outP_n {ss : List Sl} : outP [] ss = [] := by cases ss <;> rfl
def wkO (o : Option Sl) (i : Nat) (ρ : List Sl) (Q : Wk → List Sl → Prop) (_ : Tag Q := .mk) : Prop := match o with
  | some (.fz d) => wO (seqItems d) fun ds => Q (ds, none) ρ
  | some (.ow d) => wO (seqItems d) fun ds => Q (ds, some i) (ρ.set i (.lk d))
  | some (.lk d) => wO (seqItems d) fun ds => Q (ds, none) ρ
  | _ => False
theorem vO_map {α β : Type} {o : Option α} {f : α → β} {Q : β → Prop} : vO (o.map f) Q = vO o fun a => Q (f a) := by cases o <;> rfl
theorem wk_nm {i : Nat} {Q : Wk → List Sl → Prop} : wM (dWk (pr (.nm i))) ρ Q = wkO ρ[i]? i ρ Q := by
  have hb : ∀ (k : Rs → M Wk), bd (pr (.nm i)) k ρ = k (.nm i) ρ := fun _ => rfl
  rw [wM_def]
  unfold vM dWk wkO
  simp only [wO_def]
  rw [hb]
  dsimp only
  cases ρ[i]? with
  | none => rfl
  | some s =>
    cases s with
    | em => rfl
    | fz d => exact Eq.trans (vM_opt (o := (seqItems d).map fun ds => (ds, (none : Option Nat)))) vO_map
    | ow d => exact Eq.trans (vM_opt (o := (seqItems d).map fun ds => (ds, some i))) vO_map
    | lk d => exact Eq.trans (vM_opt (o := (seqItems d).map fun ds => (ds, (none : Option Nat)))) vO_map
theorem wkO_fz {i : Nat} {d : D} {Q : Wk → List Sl → Prop} : wkO (some (.fz d)) i ρ Q = wO (seqItems d) fun ds => Q (ds, none) ρ := rfl
theorem wkO_ow {i : Nat} {d : D} {Q : Wk → List Sl → Prop} : wkO (some (.ow d)) i ρ Q = wO (seqItems d) fun ds => Q (ds, some i) (ρ.set i (.lk d)) := rfl
theorem wkO_lk {i : Nat} {d : D} {Q : Wk → List Sl → Prop} : wkO (some (.lk d)) i ρ Q = wO (seqItems d) fun ds => Q (ds, none) ρ := rfl
theorem wk_fz {d : D} {Q : Wk → List Sl → Prop} : wM (dWk (pr (.fz d))) ρ Q = wO (seqItems d) fun ds => Q (ds, none) ρ := by
  rw [wM_def, wO_def]; exact Eq.trans (vM_opt (o := (seqItems d).map fun ds => (ds, (none : Option Nat)))) vO_map
theorem wk_ow {d : D} {Q : Wk → List Sl → Prop} : wM (dWk (pr (.ow d))) ρ Q = wO (seqItems d) fun ds => Q (ds, none) ρ := by
  rw [wM_def, wO_def]; exact Eq.trans (vM_opt (o := (seqItems d).map fun ds => (ds, (none : Option Nat)))) vO_map
def isPr (f : M Rs) : Prop := ∃ r, f = pr r
theorem wM_wkE {f : M Rs} {Q : Wk → List Sl → Prop} : wM (dWk f) ρ Q = wM f ρ fun r ρ1 => wM (dWk (pr r)) ρ1 Q := by
  simp only [wM_def]; exact vM_wk
theorem wM_wkV {i : Nat} {Q : Wk → List Sl → Prop} : wM (dWk (dVar i)) ρ Q = wM (dVar i) ρ fun r ρ1 => wM (dWk (pr r)) ρ1 Q := wM_wkE
theorem wM_wkT {f : M (List Rs)} {Q : Wk → List Sl → Prop} : wM (dWk (dTup f)) ρ Q = wM (dTup f) ρ fun r ρ1 => wM (dWk (pr r)) ρ1 Q := wM_wkE
theorem wM_wkL {f : M (List Rs)} {Q : Wk → List Sl → Prop} : wM (dWk (dLst f)) ρ Q = wM (dLst f) ρ fun r ρ1 => wM (dWk (pr r)) ρ1 Q := wM_wkE
theorem wM_wk2 {g : G2} {fa fb : M Rs} {Q : Wk → List Sl → Prop} : wM (dWk (dOp2 g fa fb)) ρ Q = wM (dOp2 g fa fb) ρ fun r ρ1 => wM (dWk (pr r)) ρ1 Q := wM_wkE
theorem wM_wkB {g : List D → Option Rs} {f : M (List Rs)} {Q : Wk → List Sl → Prop} : wM (dWk (dB g f)) ρ Q = wM (dB g f) ρ fun r ρ1 => wM (dWk (pr r)) ρ1 Q := wM_wkE
theorem wM_wkC {ls : List Bool} {s : M Rs} {f : M (List Rs)} {Q : Wk → List Sl → Prop} : wM (dWk (dCall ls s f)) ρ Q = wM (dCall ls s f) ρ fun r ρ1 => wM (dWk (pr r)) ρ1 Q := wM_wkE
theorem items_l {ds : List D} : seqItems (.list ds) = some ds := rfl
theorem items_t {ds : List D} : seqItems (.tuple ds) = some ds := rfl
def rng1 : List D → Option Wk
  | [.int j] => if -(2 ^ 62) ≤ j ∧ j < 2 ^ 62 then some ((List.range j.toNat).map fun k => .int (k : Nat), none) else none
  | _ => none
def rng2 : List D → Option Wk
  | [.int i, .int j] => if -(2 ^ 62) ≤ i ∧ i < 2 ^ 62 ∧ -(2 ^ 62) ≤ j ∧ j < 2 ^ 62 then some ((List.range (j - i).toNat).map fun k => .int (i + (k : Nat)), none) else none
  | _ => none
theorem wM_rng1 {f : M (List Rs)} {Q : Wk → List Sl → Prop} : wM (dRng1 f) ρ Q = wM f ρ fun rs ρ1 => wM (lookA rs) ρ1 fun ds ρ2 => wO (rng1 ds) fun p => Q p ρ2 := by
  simp only [wM_def, wO_def]; unfold dRng1; simp only [vM_bd, vM_opt]; rfl
theorem wM_rng2 {f : M (List Rs)} {Q : Wk → List Sl → Prop} : wM (dRng2 f) ρ Q = wM f ρ fun rs ρ1 => wM (lookA rs) ρ1 fun ds ρ2 => wO (rng2 ds) fun p => Q p ρ2 := by
  simp only [wM_def, wO_def]; unfold dRng2; simp only [vM_bd, vM_opt]; rfl
theorem rng1_ok {j : Int} (h1 : -4611686018427387904 ≤ j) (h2 : j < 4611686018427387904) : rng1 [.int j] = some ((List.range j.toNat).map fun k => .int (k : Nat), none) := if_pos ⟨h1, h2⟩
theorem rng2_ok {i j : Int} (h0 : -4611686018427387904 ≤ i) (h3 : i < 4611686018427387904) (h1 : -4611686018427387904 ≤ j) (h2 : j < 4611686018427387904) : rng2 [.int i, .int j] = some ((List.range (j - i).toNat).map fun k => .int (i + (k : Nat)), none) := if_pos ⟨h0, h3, h1, h2⟩
def unlK (o : Option Sl) (i : Nat) (ρ : List Sl) : List Sl := match o with
  | some (.lk d) => ρ.set i (.ow d)
  | _ => ρ
theorem unl_some {i : Nat} : unl (some i) ρ = unlK ρ[i]? i ρ := by
  unfold unl unlK; rfl
theorem unlK_lk {i : Nat} {d : D} : unlK (some (.lk d)) i ρ = ρ.set i (.ow d) := rfl
theorem unl_none : unl none ρ = ρ := rfl
/-! ### tests and choices -/
theorem wM_not {t : M Bool} {Q : Bool → List Sl → Prop} : wM (dNot t) ρ Q = wM t ρ fun b ρ1 => Q (!b) ρ1 := by
  simp only [wM_def, wO_def]; unfold dNot; simp only [vM_bd, vM_opt, vM_ite, vM_pr]
theorem wM_ite {α : Type} {c : Prop} [Decidable c] {a b : M α} {Q : α → List Sl → Prop} : wM (if c then a else b) ρ Q = if c then wM a ρ Q else wM b ρ Q := by split <;> rfl
theorem wM_tru {f : M Rs} {Q : Bool → List Sl → Prop} : wM (dTru f) ρ Q = wM f ρ fun r ρ1 => wM (look r) ρ1 fun d ρ2 => wO (tru d) fun b => Q b ρ2 := by
  simp only [wM_def, wO_def]; unfold dTru; simp only [vM_bd, vM_opt, vM_ite, vM_pr]
theorem wM_and {a b : M Bool} {Q : Bool → List Sl → Prop} : wM (dAnd a b) ρ Q = wM a ρ fun k ρ1 => if k = true then wM b ρ1 Q else Q false ρ1 := by
  simp only [wM_def, wO_def]; unfold dAnd; simp only [vM_bd, vM_opt, vM_ite, vM_pr]
theorem wM_or {a b : M Bool} {Q : Bool → List Sl → Prop} : wM (dOr a b) ρ Q = wM a ρ fun k ρ1 => if k = true then Q true ρ1 else wM b ρ1 Q := by
  simp only [wM_def, wO_def]; unfold dOr; simp only [vM_bd, vM_opt, vM_ite, vM_pr]
theorem wM_andV {a b : M Rs} {Q : Rs → List Sl → Prop} : wM (dAndV a b) ρ Q = wM a ρ fun r ρ1 => wM (look r) ρ1 fun d ρ2 => wO (tru d) fun k => if k = true then wM b ρ2 Q else wM (frz r) ρ2 fun d ρ3 => Q (.fz d) ρ3 := by
  simp only [wM_def, wO_def]; unfold dAndV; simp only [vM_bd, vM_opt, vM_ite, vM_pr]
theorem wM_orV {a b : M Rs} {Q : Rs → List Sl → Prop} : wM (dOrV a b) ρ Q = wM a ρ fun r ρ1 => wM (look r) ρ1 fun d ρ2 => wO (tru d) fun k => if k = true then wM (frz r) ρ2 (fun d ρ3 => Q (.fz d) ρ3) else wM b ρ2 Q := by
  simp only [wM_def, wO_def]; unfold dOrV; simp only [vM_bd, vM_opt, vM_ite, vM_pr]
theorem wM_notV {a : M Rs} {Q : Rs → List Sl → Prop} : wM (dNotV a) ρ Q = wM a ρ fun r ρ1 => wM (look r) ρ1 fun d ρ2 => wO (tru d) fun k => Q (.fz (.bool (!k))) ρ2 := by
  simp only [wM_def, wO_def]; unfold dNotV; simp only [vM_bd, vM_opt, vM_ite, vM_pr]
theorem wM_ifE {c : M Bool} {a b : M Rs} {Q : Rs → List Sl → Prop} : wM (dIfE c a b) ρ Q = wM c ρ fun k ρ1 => if k = true then wM a ρ1 Q else wM b ρ1 Q := by
  simp only [wM_def, wO_def]; unfold dIfE; simp only [vM_bd, vM_opt, vM_ite, vM_pr]
theorem wM_chain {g g' : D → D → Option Bool} {fa fb fc : M Rs} {Q : Rs → List Sl → Prop} : wM (dChain g g' fa fb fc) ρ Q = wM fa ρ fun ra ρ1 => wM fb ρ1 fun rb ρ2 => wM (look ra) ρ2 fun da ρ3 => wM (look rb) ρ3 fun db ρ4 => wO (g da db) fun k =>
    if k = true then wM fc ρ4 fun rc ρ5 => wM (look rb) ρ5 fun db ρ6 => wM (look rc) ρ6 fun dc ρ7 => wO (g' db dc) fun k => Q (.fz (.bool k)) ρ7 else Q (.fz (.bool false)) ρ4 := by
  simp only [wM_def, wO_def]; unfold dChain; simp only [vM_bd, vM_opt, vM_ite, vM_pr]
theorem wM_chainT {g g' : D → D → Option Bool} {fa fb fc : M Rs} {Q : Bool → List Sl → Prop} : wM (dChainT g g' fa fb fc) ρ Q = wM fa ρ fun ra ρ1 => wM fb ρ1 fun rb ρ2 => wM (look ra) ρ2 fun da ρ3 => wM (look rb) ρ3 fun db ρ4 => wO (g da db) fun k =>
    if k = true then wM fc ρ4 fun rc ρ5 => wM (look rb) ρ5 fun db ρ6 => wM (look rc) ρ6 fun dc ρ7 => wO (g' db dc) fun k => Q k ρ7 else Q false ρ4 := by
  simp only [wM_def, wO_def]; unfold dChainT; simp only [vM_bd, vM_opt, vM_ite, vM_pr]
theorem wM_dispN {ps : List (M Rs × M Rs)} {Q : Rs → List Sl → Prop} : wM (dDisp ps) ρ Q = wM (dPairs ps) ρ fun krs ρ1 => wM (frzA (krs.map (·.2))) ρ1 fun ds ρ2 => krs.length ≤ 15 ∧ Q (.ow (.dict ((List.zip (krs.map (·.1)) ds).foldl (fun acc kv => dput kv.1 kv.2 acc) []))) ρ2 := by
  simp only [wM_def]; unfold dDisp; simp only [vM_bd]
  congr 1; funext krs ρ1; congr 1; funext ds ρ2
  by_cases h : krs.length ≤ 15
  · rw [if_pos h]; simp only [vM_pr, h, true_and]
  · rw [if_neg h]; exact propext ⟨fun z => (vM_iff.mp z).elim fun a ⟨_, e, _⟩ => (nomatch e), fun z => (h z.1).elim⟩
theorem wM_pairs0 {Q : List (Key × Rs) → List Sl → Prop} : wM (dPairs []) ρ Q = Q [] ρ := wM_pr
theorem wM_pairs {p : M Rs × M Rs} {ps : List (M Rs × M Rs)} {Q : List (Key × Rs) → List Sl → Prop} : wM (dPairs (p :: ps)) ρ Q = wM (dKey p.1) ρ fun k ρ1 => wM p.2 ρ1 fun r ρ2 => wM (dPairs ps) ρ2 fun rs ρ3 => Q ((k, r) :: rs) ρ3 := by
  simp only [wM_def]
  conv => lhs; unfold dPairs
  simp only [vM_bd, vM_pr]
theorem wM_new {Q : Rs → List Sl → Prop} : wM dNew ρ Q = Q (.ow (.dict [])) ρ := wM_pr
theorem tru_b {b : Bool} : tru (.bool b) = some b := rfl
theorem tru_n : tru .none = some false := rfl
theorem tru_l {ds : List D} : tru (.list ds) = some (!ds.isEmpty) := rfl
theorem tru_t {ds : List D} : tru (.tuple ds) = some (!ds.isEmpty) := rfl
theorem key_i {i : Int} : keyOf (.int i) = some (.inl i) := rfl
theorem key_s {x : Str} : keyOf (.str x) = some (.inr x) := rfl
theorem gIAdd_ii {i j : Int} : gIAdd (.int i) (.int j) = some (.fz (.int (i + j))) := rfl
theorem gISub_ii {i j : Int} : gISub (.int i) (.int j) = some (.fz (.int (i - j))) := rfl
def callR (r : R Rs) (rs : List Rs) (ρ : List Sl) (Q : Rs → List Sl → Prop) (_ : Tag Q := .mk) : Prop := match r with
  | .ok (.fz d) ρp => Q (.fz d) (wb rs ρp ρ)
  | .ok (.ow d) ρp => Q (.ow d) (wb rs ρp ρ)
  | _ => False
theorem callK_R {sem : M Rs} {rs : List Rs} {Q : Rs → List Sl → Prop} : callK sem rs ρ Q = callR (sem (rs.map (slotOf ρ))) rs ρ Q := by
  unfold callK callR vR
  cases sem (rs.map (slotOf ρ)) with
  | bad => rfl
  | ok r ρp => cases r <;> rfl
theorem callR_fz {rs : List Rs} {d : D} {ρp : List Sl} {Q : Rs → List Sl → Prop} : callR (.ok (.fz d) ρp) rs ρ Q = Q (.fz d) (wb rs ρp ρ) := rfl
theorem callR_ow {rs : List Rs} {d : D} {ρp : List Sl} {Q : Rs → List Sl → Prop} : callR (.ok (.ow d) ρp) rs ρ Q = Q (.ow d) (wb rs ρp ρ) := rfl
theorem rest_nil {ρ' : List Sl} : restore [] ρ ρ' = ρ' := rfl
def restK (o : Option Sl) (i : Nat) (ρ : List Sl) : List Sl := match o with
  | some s => ρ.set i s
  | none => ρ
theorem rest_cons {i : Nat} {is : List Nat} {ρ' : List Sl} : restore (i :: is) ρ ρ' = restK ρ[i]? i (restore is ρ ρ') := by
  conv => lhs; unfold restore
  cases ρ[i]? <;> rfl
theorem restK_some {i : Nat} {s : Sl} : restK (some s) i ρ = ρ.set i s := rfl
theorem wipe_nil : wipeR [] ρ = ρ := rfl
theorem wipe_cons {i : Nat} {is : List Nat} : wipeR (i :: is) ρ = (wipeR is ρ).set i .em := rfl
/-! ### loops, what is walked told apart -/
theorem wS_forI {w : M Wk} {g : DG} {body : DS} {ds : List D} {l : Option Nat} {ρ1 : List Sl} (hw : wM w ρ fun p ρ2 => p = (ds, l) ∧ ρ2 = ρ1) (I : Nat → List Sl → Prop) (h0 : I 0 ρ1)
    (st : ∀ k d ρ, ds[k]? = some d → I k ρ → wO (g d ρ) fun ρ2 => wS body ρ2 (I (k + 1)) (fun r ρ => T r (unl l ρ)) (fun ρ => N (unl l ρ)) (I (k + 1))) (fin : ∀ ρ, I ds.length ρ → N (unl l ρ)) : wS (dFor w g body) ρ N T B C :=
  wS_for (wM_mono hw fun p ρ2 ⟨e1, e2⟩ => by subst e1; subst e2; exact ⟨I, h0, st, fin⟩)
theorem wM_lcI {own : List Nat} {w : M Wk} {g : DG} {tt : M Bool} {te : M Rs} {Q : Rs → List Sl → Prop} {ds : List D} {l : Option Nat} {ρ1 : List Sl} (hw : wM w ρ fun p ρ2 => p = (ds, l) ∧ ρ2 = ρ1) (hl : ds.length ≤ sizeLine) (I : Nat → List D → List Sl → Prop) (h0 : I 0 [] (wipeR own ρ1))
    (st : ∀ k d acc ρ, ds[k]? = some d → I k acc ρ → wO (g d ρ) fun ρ1 => wM tt ρ1 fun b ρ2 => if b = true then wM te ρ2 fun r ρ3 => wM (frz r) ρ3 fun x ρ4 => I (k + 1) (acc ++ [x]) (wipeR own ρ4) else I (k + 1) acc (wipeR own ρ2))
    (fin : ∀ acc ρ2, I ds.length acc ρ2 → Q (.ow (.list acc)) (unl l (restore own ρ1 ρ2))) : wM (dLc own w g tt te) ρ Q :=
  wM_lc (wM_mono hw fun p ρ2 ⟨e1, e2⟩ => by subst e1; subst e2; exact ⟨hl, I, h0, st, fin⟩)
/-- a comprehension that changes nothing: its value -/
theorem wM_lcM {α : Type} {own : List Nat} {w : M Wk} {g : DG} {tt : M Bool} {te : M Rs} {Q : Rs → List Sl → Prop} {l : Option Nat} {ρ1 : List Sl} {enc : α → D} {xs : List α} (hw : wM w ρ fun p ρ2 => p = (xs.map enc, l) ∧ ρ2 = ρ1) (p : α → Bool) (f : α → D) (hl : xs.length ≤ sizeLine)
    (st : ∀ x ∈ xs, wO (g (enc x) (wipeR own ρ1)) fun ρ2 => wM tt ρ2 fun b ρ3 => b = p x ∧ if b = true then wM te ρ3 fun r ρ4 => wM (frz r) ρ4 fun y ρ5 => y = f x ∧ wipeR own ρ5 = wipeR own ρ1 else wipeR own ρ3 = wipeR own ρ1)
    (fin : Q (.ow (.list ((xs.filter p).map f))) (unl l (restore own ρ1 (wipeR own ρ1)))) : wM (dLc own w g tt te) ρ Q :=
  wM_lcMap enc xs p f (wM_mono hw fun q ρ2 ⟨e1, e2⟩ => by subst e1; subst e2; exact ⟨rfl, hl, st, fin⟩)
theorem filter_yes {α : Type} (xs : List α) : xs.filter (fun _ => true) = xs := by simp
/-- without a test -/
theorem wM_lcY {α : Type} {own : List Nat} {w : M Wk} {g : DG} {te : M Rs} {Q : Rs → List Sl → Prop} {l : Option Nat} {ρ1 : List Sl} {enc : α → D} {xs : List α} (hw : wM w ρ fun p ρ2 => p = (xs.map enc, l) ∧ ρ2 = ρ1) (f : α → D) (hl : xs.length ≤ sizeLine)
    (st : ∀ x ∈ xs, wO (g (enc x) (wipeR own ρ1)) fun ρ2 => wM te ρ2 fun r ρ4 => wM (frz r) ρ4 fun y ρ5 => y = f x ∧ wipeR own ρ5 = wipeR own ρ1)
    (fin : Q (.ow (.list (xs.map f))) (unl l (restore own ρ1 (wipeR own ρ1)))) : wM (dLc own w g dYes te) ρ Q :=
  wM_lcM hw (fun _ => true) f hl (fun x hx => by
    have h := st x hx
    simp only [wO_def, wM_def, vM_yes, true_and, if_true] at h ⊢
    exact h) (by rw [filter_yes]; exact fin)
theorem at_map {α : Type} {enc : α → D} {xs : List α} {k : Nat} {d : D} (h : (xs.map enc)[k]? = some d) : ∃ hk : k < xs.length, d = enc xs[k] := by
  rw [List.getElem?_map] at h
  rcases Nat.lt_or_ge k xs.length with z | z
  · rw [List.getElem?_eq_getElem z] at h; cases h; exact ⟨z, rfl⟩
  · rw [List.getElem?_eq_none z] at h; cases h
theorem at_rng {n k : Nat} {d : D} {f : Nat → D} (h : ((List.range n).map f)[k]? = some d) : k < n ∧ d = f k := by
  obtain ⟨hk, e⟩ := at_map h
  rw [List.getElem_range] at e
  exact ⟨by simpa using hk, e⟩
end
end DL

/-! what the laws draw: the same in every law -/
namespace DL
open PySem L2
def drawsB : DS :=
 (dSeq (dSet 2 (dLst dNil))
 (dSeq (dSet 3 (dC (.int 7)))
 (dSeq (dFor (dRng1 (dCons (dB gLen (dCons (dVar 0) dNil)) dNil)) (gN 4)
 ((dSeq (dSet 5 (dB gAbs (dCons (dB gInt (dCons (dOp2 gIx (dVar 0) (dVar 4)) dNil)) dNil)))
 (dSeq (dSet 3 (dOp2 gMod (dB gInt (dCons (dOp2 gAdd (dOp2 gAdd (dOp2 gMul (dVar 3) (dC (.int 48271))) (dOp2 gMod (dVar 5) (dC (.int 1000003)))) (dVar 4)) dNil)) (dC (.int 65537))))
 (dSeq (dSet 6 (dC (.int 0)))
 (dSeq (dIf (dOp2T gGe (dVar 5) (dOp2 gPow (dC (.int 10)) (dC (.int 18))))
 ((dSet 6 (dVar 5)))
 ((dSeq (dDrop (dMut 2 isLst true gAppend (dCons (dOp2 gMod (dB gInt (dCons (dVar 5) dNil)) (dC (.int 997))) dNil)))
 (dDrop (dMut 2 isLst true gAppend (dCons (dOp2 gMod (dOp2 gMod (dB gInt (dCons (dOp2 gAdd (dOp2 gMul (dVar 3) (dC (.int 69621))) (dC (.int 5))) dNil)) (dC (.int 65521))) (dC (.int 997))) dNil))))))
 (dFor (dRng1 (dCons (dC (.int 60)) dNil)) (gN 7)
 ((dIf (dOp2T gGt (dVar 6) (dC (.int 0)))
 ((dSeq (dDrop (dMut 2 isLst true gAppend (dCons (dOp2 gMod (dB gInt (dCons (dVar 6) dNil)) (dC (.int 997))) dNil)))
 (dSet 6 (dOp2 gDiv (dVar 6) (dC (.int 997))))))
 (dPass))))))))))
 (dSeq (dFor (dRng1 (dCons (dVar 1) dNil)) (gN 4)
 ((dSeq (dSet 3 (dOp2 gMod (dB gInt (dCons (dOp2 gAdd (dOp2 gAdd (dOp2 gMul (dVar 3) (dC (.int 16807))) (dVar 4)) (dC (.int 1))) dNil)) (dC (.int 65537))))
 (dDrop (dMut 2 isLst true gAppend (dCons (dOp2 gMod (dB gInt (dCons (dVar 3) dNil)) (dC (.int 997))) dNil))))))
 (dRet (dSl (dVar 2) dNoP (dPart (dVar 1))))))))
def nextB : DS :=
 (dSeq (dAugS gIAdd 0 (dC (.str "at")) (dC (.int 1)))
 (dSeq (dIf (dOp2T gGt (dOp2 gIx (dVar 0) (dC (.str "at"))) (dB gLen (dCons (dOp2 gIx (dVar 0) (dC (.str "draws"))) dNil)))
 ((dRet (dC (.int 0))))
 (dPass))
 (dRet (dOp2 gMod (dB gInt (dCons (dOp2 gIx (dOp2 gIx (dVar 0) (dC (.str "draws"))) (dOp2 gSub (dOp2 gIx (dVar 0) (dC (.str "at"))) (dC (.int 1)))) dNil)) (dVar 1)))))
def drawsF : M Rs := runDef [true, true] 8 drawsB
def nextF : M Rs := runDef [true, true] 2 nextB
/-- the drawer: what it holds -/
def Wd (ds : List Int) (at_ : Int) : D := .dict [(.str "draws", .list (ds.map .int)), (.str "at", .int at_)]
def W (ds : List Int) (at_ : Int) : Sl := .ow (Wd ds at_)
theorem ix_draws {ds : List Int} {a : Int} : gIx (Wd ds a) (.str "draws") = some (.fz (.list (ds.map .int))) := rfl
theorem ix_at {ds : List Int} {a : Int} : gIx (Wd ds a) (.str "at") = some (.fz (.int a)) := rfl
theorem get_at {ds : List Int} {a : Int} : gGet (Wd ds a) (kD (.inr "at")) = some (.int a) := rfl
theorem put_at {ds : List Int} {a b : Int} : gPut (Wd ds a) (kD (.inr "at")) (.int b) = some (Wd ds b) := rfl
/-- a draw below m -/
def nx (ds : List Int) (i : Nat) (m : Int) : Int := if h : i < ds.length then ds[i] % m else 0
theorem nx_nonneg {ds : List Int} {i : Nat} {m : Int} (h : 0 < m) : 0 ≤ nx ds i m := by
  unfold nx; split
  · exact Int.emod_nonneg _ (by omega)
  · exact Int.le_refl _
theorem nx_lt {ds : List Int} {i : Nat} {m : Int} (h : 0 < m) : nx ds i m < m := by
  unfold nx; split
  · exact Int.emod_lt_of_pos _ h
  · exact h
theorem next_ok (ds : List Int) (i : Nat) (m : Int) (hm : 0 < m) : nextF [W ds i, .fz (.int m)] = .ok (.fz (.int (nx ds i m))) [W ds (i + 1 : Nat), .fz (.int m)] := by
  apply run_eq
  unfold nextB W
  simp (disch := first | omega | (simp only [List.length_map, List.length_append, List.length_cons, List.length_nil, List.length_set, List.length_range, sizeLine_eq]; done) | (simp only [List.length_map, List.length_append, List.length_cons, List.length_nil, List.length_set, List.length_range, sizeLine_eq]; omega)) only [↓wM_bd, ↓wM_pr, ↓wM_opt, ↓wM_C, ↓wM_var, ↓wM_look_fz, ↓wM_look_ow, ↓wM_look_nm, ↓wM_frz_fz, ↓wM_frz_ow, ↓wM_frz_nm, ↓wM_op2, ↓wM_op2T, ↓wO_gB, ↓wM_op1, ↓wM_nil, ↓wM_cons, ↓wM_frzA0, ↓wM_frzA, ↓wM_lookA0, ↓wM_lookA, ↓wM_tup, ↓wM_lst, ↓wM_B, ↓wM_isi, ↓wM_me, ↓wM_sl, ↓wM_noP, ↓wM_part, ↓wM_key, ↓wM_call, ↓wM_argSA0, ↓wM_argSA, ↓wM_argS_fz, ↓wM_argS_ow, ↓wM_argS_nm, ↓wM_mut, ↓wM_yes, ↓wM_rng1, ↓wM_rng2, ↓wM_wkV, ↓wM_wkT, ↓wM_wkL, ↓wM_wk2, ↓wM_wkB, ↓wM_wkC, ↓wM_not, ↓wM_tru, ↓wM_and, ↓wM_or, ↓wM_andV, ↓wM_orV, ↓wM_notV, ↓wM_ifE, ↓wM_chain, ↓wM_chainT, ↓wM_dispN, ↓wM_pairs0, ↓wM_pairs, ↓wM_new, ↓wO_gsC, ↓wS_seq, ↓wS_pass, ↓wS_brk, ↓wS_cnt, ↓wS_ret, ↓wS_drop, ↓wS_if, ↓wS_set, ↓wS_asg, ↓wS_par, ↓wS_put, ↓wS_augS, ↓wS_aug, ↓wM_run', wO_some, varK_fz, varK_ow, varK_lk, lookK_fz, lookK_ow, lookK_lk, frzK_fz, frzK_ow, frzK_lk, argK_fz, argK_owt, argK_owf, argK_lkt, argK_lkf, mutK_ow', mutO_ow, putK'_ow, getK_ow, fzO_fz, augK_fz, intD_int, retK_fz, retK_ow, retK_nm, retO_fz, retO_ow, retO_lk, setR_fz, setR_ow, setR_nm, setK_fz, setK_ow, setK_lk, tru_b, tru_n, tru_l, tru_t, key_i, key_s, gIAdd_ii, gISub_ii, gPow_18, gN_ok, gsN_ok, gT_ok, setQs_nil, setQs_fz, setQs_ow, outP_t, outP_f, outP_n, wkO_fz, wkO_ow, wkO_lk, wk_fz, wk_ow, wk_nm, items_l, items_t, unl_none, unl_some, unlK_lk, callK_R, callR_fz, callR_ow, rest_nil, rest_cons, restK_some, wipe_nil, wipe_cons, gAdd_ii, gSub_ii, gMul_l, gMul_r, gDiv_ii, gMod_ii, gNeg_i, gEq_ii, gEq_ss, gEq_bb, gNe_ii, gNe_ss, gLt_ii, gLe_ii, gGt_ii, gGe_ii, gIx_l0, gIx_t0, gIx_l1, gIx_t1, gIx_l2, gIx_t2, gIx_t3, gLen_l, gLen_t, gLen_d, gAbs_i, gAppend_l, gExtend_l, gInt_i, gTuple_l, gTuple_t, gList_l, gList_t, gMax_ii, gMin_ii, gSum_l, gIs_none, isLst, isT, isOw, List.getElem?_cons_zero, List.getElem?_cons_succ, List.length_cons, List.length_nil, List.cons_append, List.nil_append, List.replicate, List.set_cons_zero, List.set_cons_succ, true_and, and_true, if_true, List.map_cons, List.map_nil, Nat.reduceAdd, Nat.reduceSub, Nat.reduceLT, Nat.reduceLeDiff, List.length_set, List.length_map, List.length_append, List.length_range, reduceIte, reduceDIte, Bool.false_eq_true, slotOf, wb, Option.getD_some, nmOk, heldR, List.all_cons, List.all_nil, List.any_cons, List.any_nil, isNm, Bool.and_true, Bool.true_and, Bool.false_and, Bool.and_false, Bool.not_false, Bool.not_true, Bool.or_false, ix_draws, ix_at, get_at, put_at, decide_eq_true_eq]
  unfold nx
  by_cases h : i < ds.length
  · have e : ((i : Int) + 1 - 1) = (i : Nat) := by omega
    have e2 : ((i + 1 : Nat) : Int) = (i : Int) + 1 := by omega
    simp (disch := first | omega | (simp only [List.length_map, List.length_append, List.length_cons, List.length_nil, List.length_set, List.length_range, sizeLine_eq]; done) | (simp only [List.length_map, List.length_append, List.length_cons, List.length_nil, List.length_set, List.length_range, sizeLine_eq]; omega)) only [↓wM_bd, ↓wM_pr, ↓wM_opt, ↓wM_C, ↓wM_var, ↓wM_look_fz, ↓wM_look_ow, ↓wM_look_nm, ↓wM_frz_fz, ↓wM_frz_ow, ↓wM_frz_nm, ↓wM_op2, ↓wM_op2T, ↓wO_gB, ↓wM_op1, ↓wM_nil, ↓wM_cons, ↓wM_frzA0, ↓wM_frzA, ↓wM_lookA0, ↓wM_lookA, ↓wM_tup, ↓wM_lst, ↓wM_B, ↓wM_isi, ↓wM_me, ↓wM_sl, ↓wM_noP, ↓wM_part, ↓wM_key, ↓wM_call, ↓wM_argSA0, ↓wM_argSA, ↓wM_argS_fz, ↓wM_argS_ow, ↓wM_argS_nm, ↓wM_mut, ↓wM_yes, ↓wM_rng1, ↓wM_rng2, ↓wM_wkV, ↓wM_wkT, ↓wM_wkL, ↓wM_wk2, ↓wM_wkB, ↓wM_wkC, ↓wM_not, ↓wM_tru, ↓wM_and, ↓wM_or, ↓wM_andV, ↓wM_orV, ↓wM_notV, ↓wM_ifE, ↓wM_chain, ↓wM_chainT, ↓wM_dispN, ↓wM_pairs0, ↓wM_pairs, ↓wM_new, ↓wO_gsC, ↓wS_seq, ↓wS_pass, ↓wS_brk, ↓wS_cnt, ↓wS_ret, ↓wS_drop, ↓wS_if, ↓wS_set, ↓wS_asg, ↓wS_par, ↓wS_put, ↓wS_augS, ↓wS_aug, ↓wM_run', wO_some, varK_fz, varK_ow, varK_lk, lookK_fz, lookK_ow, lookK_lk, frzK_fz, frzK_ow, frzK_lk, argK_fz, argK_owt, argK_owf, argK_lkt, argK_lkf, mutK_ow', mutO_ow, putK'_ow, getK_ow, fzO_fz, augK_fz, intD_int, retK_fz, retK_ow, retK_nm, retO_fz, retO_ow, retO_lk, setR_fz, setR_ow, setR_nm, setK_fz, setK_ow, setK_lk, tru_b, tru_n, tru_l, tru_t, key_i, key_s, gIAdd_ii, gISub_ii, gPow_18, gN_ok, gsN_ok, gT_ok, setQs_nil, setQs_fz, setQs_ow, outP_t, outP_f, outP_n, wkO_fz, wkO_ow, wkO_lk, wk_fz, wk_ow, wk_nm, items_l, items_t, unl_none, unl_some, unlK_lk, callK_R, callR_fz, callR_ow, rest_nil, rest_cons, restK_some, wipe_nil, wipe_cons, gAdd_ii, gSub_ii, gMul_l, gMul_r, gDiv_ii, gMod_ii, gNeg_i, gEq_ii, gEq_ss, gEq_bb, gNe_ii, gNe_ss, gLt_ii, gLe_ii, gGt_ii, gGe_ii, gIx_l0, gIx_t0, gIx_l1, gIx_t1, gIx_l2, gIx_t2, gIx_t3, gLen_l, gLen_t, gLen_d, gAbs_i, gAppend_l, gExtend_l, gInt_i, gTuple_l, gTuple_t, gList_l, gList_t, gMax_ii, gMin_ii, gSum_l, gIs_none, isLst, isT, isOw, List.getElem?_cons_zero, List.getElem?_cons_succ, List.length_cons, List.length_nil, List.cons_append, List.nil_append, List.replicate, List.set_cons_zero, List.set_cons_succ, true_and, and_true, if_true, List.map_cons, List.map_nil, Nat.reduceAdd, Nat.reduceSub, Nat.reduceLT, Nat.reduceLeDiff, List.length_set, List.length_map, List.length_append, List.length_range, reduceIte, reduceDIte, Bool.false_eq_true, slotOf, wb, Option.getD_some, nmOk, heldR, List.all_cons, List.all_nil, List.any_cons, List.any_nil, isNm, Bool.and_true, Bool.true_and, Bool.false_and, Bool.and_false, Bool.not_false, Bool.not_true, Bool.or_false, if_neg (show ¬ ((ds.length : Int) < i + 1) by omega), e, e2, gIx_lm, h]
  · have e2 : ((i + 1 : Nat) : Int) = (i : Int) + 1 := by omega
    simp (disch := first | omega | (simp only [List.length_map, List.length_append, List.length_cons, List.length_nil, List.length_set, List.length_range, sizeLine_eq]; done) | (simp only [List.length_map, List.length_append, List.length_cons, List.length_nil, List.length_set, List.length_range, sizeLine_eq]; omega)) only [↓wM_bd, ↓wM_pr, ↓wM_opt, ↓wM_C, ↓wM_var, ↓wM_look_fz, ↓wM_look_ow, ↓wM_look_nm, ↓wM_frz_fz, ↓wM_frz_ow, ↓wM_frz_nm, ↓wM_op2, ↓wM_op2T, ↓wO_gB, ↓wM_op1, ↓wM_nil, ↓wM_cons, ↓wM_frzA0, ↓wM_frzA, ↓wM_lookA0, ↓wM_lookA, ↓wM_tup, ↓wM_lst, ↓wM_B, ↓wM_isi, ↓wM_me, ↓wM_sl, ↓wM_noP, ↓wM_part, ↓wM_key, ↓wM_call, ↓wM_argSA0, ↓wM_argSA, ↓wM_argS_fz, ↓wM_argS_ow, ↓wM_argS_nm, ↓wM_mut, ↓wM_yes, ↓wM_rng1, ↓wM_rng2, ↓wM_wkV, ↓wM_wkT, ↓wM_wkL, ↓wM_wk2, ↓wM_wkB, ↓wM_wkC, ↓wM_not, ↓wM_tru, ↓wM_and, ↓wM_or, ↓wM_andV, ↓wM_orV, ↓wM_notV, ↓wM_ifE, ↓wM_chain, ↓wM_chainT, ↓wM_dispN, ↓wM_pairs0, ↓wM_pairs, ↓wM_new, ↓wO_gsC, ↓wS_seq, ↓wS_pass, ↓wS_brk, ↓wS_cnt, ↓wS_ret, ↓wS_drop, ↓wS_if, ↓wS_set, ↓wS_asg, ↓wS_par, ↓wS_put, ↓wS_augS, ↓wS_aug, ↓wM_run', wO_some, varK_fz, varK_ow, varK_lk, lookK_fz, lookK_ow, lookK_lk, frzK_fz, frzK_ow, frzK_lk, argK_fz, argK_owt, argK_owf, argK_lkt, argK_lkf, mutK_ow', mutO_ow, putK'_ow, getK_ow, fzO_fz, augK_fz, intD_int, retK_fz, retK_ow, retK_nm, retO_fz, retO_ow, retO_lk, setR_fz, setR_ow, setR_nm, setK_fz, setK_ow, setK_lk, tru_b, tru_n, tru_l, tru_t, key_i, key_s, gIAdd_ii, gISub_ii, gPow_18, gN_ok, gsN_ok, gT_ok, setQs_nil, setQs_fz, setQs_ow, outP_t, outP_f, outP_n, wkO_fz, wkO_ow, wkO_lk, wk_fz, wk_ow, wk_nm, items_l, items_t, unl_none, unl_some, unlK_lk, callK_R, callR_fz, callR_ow, rest_nil, rest_cons, restK_some, wipe_nil, wipe_cons, gAdd_ii, gSub_ii, gMul_l, gMul_r, gDiv_ii, gMod_ii, gNeg_i, gEq_ii, gEq_ss, gEq_bb, gNe_ii, gNe_ss, gLt_ii, gLe_ii, gGt_ii, gGe_ii, gIx_l0, gIx_t0, gIx_l1, gIx_t1, gIx_l2, gIx_t2, gIx_t3, gLen_l, gLen_t, gLen_d, gAbs_i, gAppend_l, gExtend_l, gInt_i, gTuple_l, gTuple_t, gList_l, gList_t, gMax_ii, gMin_ii, gSum_l, gIs_none, isLst, isT, isOw, List.getElem?_cons_zero, List.getElem?_cons_succ, List.length_cons, List.length_nil, List.cons_append, List.nil_append, List.replicate, List.set_cons_zero, List.set_cons_succ, true_and, and_true, if_true, List.map_cons, List.map_nil, Nat.reduceAdd, Nat.reduceSub, Nat.reduceLT, Nat.reduceLeDiff, List.length_set, List.length_map, List.length_append, List.length_range, reduceIte, reduceDIte, Bool.false_eq_true, slotOf, wb, Option.getD_some, nmOk, heldR, List.all_cons, List.all_nil, List.any_cons, List.any_nil, isNm, Bool.and_true, Bool.true_and, Bool.false_and, Bool.and_false, Bool.not_false, Bool.not_true, Bool.or_false, if_pos (show ((ds.length : Int) < i + 1) by omega), h, e2]
set_option maxHeartbeats 2000000
theorem draws_ok (script : List Int) (hs : script.length ≤ 63) (many : Nat) (hm : many ≤ 100000) : ∃ ds : List Int, drawsF [.fz (.list (script.map .int)), .fz (.int many)] = .ok (.ow (.list (ds.map .int))) [.fz (.list (script.map .int)), .fz (.int many)] := by
  have key : wM drawsF [.fz (.list (script.map .int)), .fz (.int many)] fun r ρ => ∃ ds : List Int, r = .ow (.list (ds.map .int)) ∧ ρ = [.fz (.list (script.map .int)), .fz (.int many)] := by
    unfold drawsF drawsB
    simp (disch := first | omega | (simp only [List.length_map, List.length_append, List.length_cons, List.length_nil, List.length_set, List.length_range, sizeLine_eq]; done) | (simp only [List.length_map, List.length_append, List.length_cons, List.length_nil, List.length_set, List.length_range, sizeLine_eq]; omega)) only [↓wM_bd, ↓wM_pr, ↓wM_opt, ↓wM_C, ↓wM_var, ↓wM_look_fz, ↓wM_look_ow, ↓wM_look_nm, ↓wM_frz_fz, ↓wM_frz_ow, ↓wM_frz_nm, ↓wM_op2, ↓wM_op2T, ↓wO_gB, ↓wM_op1, ↓wM_nil, ↓wM_cons, ↓wM_frzA0, ↓wM_frzA, ↓wM_lookA0, ↓wM_lookA, ↓wM_tup, ↓wM_lst, ↓wM_B, ↓wM_isi, ↓wM_me, ↓wM_sl, ↓wM_noP, ↓wM_part, ↓wM_key, ↓wM_call, ↓wM_argSA0, ↓wM_argSA, ↓wM_argS_fz, ↓wM_argS_ow, ↓wM_argS_nm, ↓wM_mut, ↓wM_yes, ↓wM_rng1, ↓wM_rng2, ↓wM_wkV, ↓wM_wkT, ↓wM_wkL, ↓wM_wk2, ↓wM_wkB, ↓wM_wkC, ↓wM_not, ↓wM_tru, ↓wM_and, ↓wM_or, ↓wM_andV, ↓wM_orV, ↓wM_notV, ↓wM_ifE, ↓wM_chain, ↓wM_chainT, ↓wM_dispN, ↓wM_pairs0, ↓wM_pairs, ↓wM_new, ↓wO_gsC, ↓wS_seq, ↓wS_pass, ↓wS_brk, ↓wS_cnt, ↓wS_ret, ↓wS_drop, ↓wS_if, ↓wS_set, ↓wS_asg, ↓wS_par, ↓wS_put, ↓wS_augS, ↓wS_aug, ↓wM_run', wO_some, varK_fz, varK_ow, varK_lk, lookK_fz, lookK_ow, lookK_lk, frzK_fz, frzK_ow, frzK_lk, argK_fz, argK_owt, argK_owf, argK_lkt, argK_lkf, mutK_ow', mutO_ow, putK'_ow, getK_ow, fzO_fz, augK_fz, intD_int, retK_fz, retK_ow, retK_nm, retO_fz, retO_ow, retO_lk, setR_fz, setR_ow, setR_nm, setK_fz, setK_ow, setK_lk, tru_b, tru_n, tru_l, tru_t, key_i, key_s, gIAdd_ii, gISub_ii, gPow_18, gN_ok, gsN_ok, gT_ok, setQs_nil, setQs_fz, setQs_ow, outP_t, outP_f, outP_n, wkO_fz, wkO_ow, wkO_lk, wk_fz, wk_ow, wk_nm, items_l, items_t, unl_none, unl_some, unlK_lk, callK_R, callR_fz, callR_ow, rest_nil, rest_cons, restK_some, wipe_nil, wipe_cons, gAdd_ii, gSub_ii, gMul_l, gMul_r, gDiv_ii, gMod_ii, gNeg_i, gEq_ii, gEq_ss, gEq_bb, gNe_ii, gNe_ss, gLt_ii, gLe_ii, gGt_ii, gGe_ii, gIx_l0, gIx_t0, gIx_l1, gIx_t1, gIx_l2, gIx_t2, gIx_t3, gLen_l, gLen_t, gLen_d, gAbs_i, gAppend_l, gExtend_l, gInt_i, gTuple_l, gTuple_t, gList_l, gList_t, gMax_ii, gMin_ii, gSum_l, gIs_none, isLst, isT, isOw, List.getElem?_cons_zero, List.getElem?_cons_succ, List.length_cons, List.length_nil, List.cons_append, List.nil_append, List.replicate, List.set_cons_zero, List.set_cons_succ, true_and, and_true, if_true, List.map_cons, List.map_nil, Nat.reduceAdd, Nat.reduceSub, Nat.reduceLT, Nat.reduceLeDiff, List.length_set, List.length_map, List.length_append, List.length_range, reduceIte, reduceDIte, Bool.false_eq_true, slotOf, wb, Option.getD_some, nmOk, heldR, List.all_cons, List.all_nil, List.any_cons, List.any_nil, isNm, Bool.and_true, Bool.true_and, Bool.false_and, Bool.and_false, Bool.not_false, Bool.not_true, Bool.or_false]
    refine wS_forI (by simp (disch := first | omega | (simp only [List.length_map, List.length_append, List.length_cons, List.length_nil, List.length_set, List.length_range, sizeLine_eq]; done) | (simp only [List.length_map, List.length_append, List.length_cons, List.length_nil, List.length_set, List.length_range, sizeLine_eq]; omega)) only [↓wM_bd, ↓wM_pr, ↓wM_opt, ↓wM_C, ↓wM_var, ↓wM_look_fz, ↓wM_look_ow, ↓wM_look_nm, ↓wM_frz_fz, ↓wM_frz_ow, ↓wM_frz_nm, ↓wM_op2, ↓wM_op2T, ↓wO_gB, ↓wM_op1, ↓wM_nil, ↓wM_cons, ↓wM_frzA0, ↓wM_frzA, ↓wM_lookA0, ↓wM_lookA, ↓wM_tup, ↓wM_lst, ↓wM_B, ↓wM_isi, ↓wM_me, ↓wM_sl, ↓wM_noP, ↓wM_part, ↓wM_key, ↓wM_call, ↓wM_argSA0, ↓wM_argSA, ↓wM_argS_fz, ↓wM_argS_ow, ↓wM_argS_nm, ↓wM_mut, ↓wM_yes, ↓wM_rng1, ↓wM_rng2, ↓wM_wkV, ↓wM_wkT, ↓wM_wkL, ↓wM_wk2, ↓wM_wkB, ↓wM_wkC, ↓wM_not, ↓wM_tru, ↓wM_and, ↓wM_or, ↓wM_andV, ↓wM_orV, ↓wM_notV, ↓wM_ifE, ↓wM_chain, ↓wM_chainT, ↓wM_dispN, ↓wM_pairs0, ↓wM_pairs, ↓wM_new, ↓wO_gsC, ↓wS_seq, ↓wS_pass, ↓wS_brk, ↓wS_cnt, ↓wS_ret, ↓wS_drop, ↓wS_if, ↓wS_set, ↓wS_asg, ↓wS_par, ↓wS_put, ↓wS_augS, ↓wS_aug, ↓wM_run', wO_some, varK_fz, varK_ow, varK_lk, lookK_fz, lookK_ow, lookK_lk, frzK_fz, frzK_ow, frzK_lk, argK_fz, argK_owt, argK_owf, argK_lkt, argK_lkf, mutK_ow', mutO_ow, putK'_ow, getK_ow, fzO_fz, augK_fz, intD_int, retK_fz, retK_ow, retK_nm, retO_fz, retO_ow, retO_lk, setR_fz, setR_ow, setR_nm, setK_fz, setK_ow, setK_lk, tru_b, tru_n, tru_l, tru_t, key_i, key_s, gIAdd_ii, gISub_ii, gPow_18, gN_ok, gsN_ok, gT_ok, setQs_nil, setQs_fz, setQs_ow, outP_t, outP_f, outP_n, wkO_fz, wkO_ow, wkO_lk, wk_fz, wk_ow, wk_nm, items_l, items_t, unl_none, unl_some, unlK_lk, callK_R, callR_fz, callR_ow, rest_nil, rest_cons, restK_some, wipe_nil, wipe_cons, gAdd_ii, gSub_ii, gMul_l, gMul_r, gDiv_ii, gMod_ii, gNeg_i, gEq_ii, gEq_ss, gEq_bb, gNe_ii, gNe_ss, gLt_ii, gLe_ii, gGt_ii, gGe_ii, gIx_l0, gIx_t0, gIx_l1, gIx_t1, gIx_l2, gIx_t2, gIx_t3, gLen_l, gLen_t, gLen_d, gAbs_i, gAppend_l, gExtend_l, gInt_i, gTuple_l, gTuple_t, gList_l, gList_t, gMax_ii, gMin_ii, gSum_l, gIs_none, isLst, isT, isOw, List.getElem?_cons_zero, List.getElem?_cons_succ, List.length_cons, List.length_nil, List.cons_append, List.nil_append, List.replicate, List.set_cons_zero, List.set_cons_succ, true_and, and_true, if_true, List.map_cons, List.map_nil, Nat.reduceAdd, Nat.reduceSub, Nat.reduceLT, Nat.reduceLeDiff, List.length_set, List.length_map, List.length_append, List.length_range, reduceIte, reduceDIte, Bool.false_eq_true, slotOf, wb, Option.getD_some, nmOk, heldR, List.all_cons, List.all_nil, List.any_cons, List.any_nil, isNm, Bool.and_true, Bool.true_and, Bool.false_and, Bool.and_false, Bool.not_false, Bool.not_true, Bool.or_false, rng1_ok, rng2_ok] <;> (first | exact ⟨rfl, rfl⟩ | exact rfl)) (fun j ρ => ∃ (ds : List Int) (mixed : Int) (s4 s5 s6 s7 : Sl), ρ = [.fz (.list (script.map .int)), .fz (.int many), .ow (.list (ds.map .int)), .fz (.int mixed), s4, s5, s6, s7] ∧ ds.length ≤ j * 62) ⟨[], 7, _, _, _, _, rfl, by simp⟩ ?_ ?_
    · intro k d ρ hd ⟨ds, mixed, s4, s5, s6, s7, e, hl⟩
      subst e
      obtain ⟨hk, rfl⟩ := at_rng hd
      rw [Int.toNat_natCast] at hk
      simp (disch := first | omega | (simp only [List.length_map, List.length_append, List.length_cons, List.length_nil, List.length_set, List.length_range, sizeLine_eq]; done) | (simp only [List.length_map, List.length_append, List.length_cons, List.length_nil, List.length_set, List.length_range, sizeLine_eq]; omega)) only [↓wM_bd, ↓wM_pr, ↓wM_opt, ↓wM_C, ↓wM_var, ↓wM_look_fz, ↓wM_look_ow, ↓wM_look_nm, ↓wM_frz_fz, ↓wM_frz_ow, ↓wM_frz_nm, ↓wM_op2, ↓wM_op2T, ↓wO_gB, ↓wM_op1, ↓wM_nil, ↓wM_cons, ↓wM_frzA0, ↓wM_frzA, ↓wM_lookA0, ↓wM_lookA, ↓wM_tup, ↓wM_lst, ↓wM_B, ↓wM_isi, ↓wM_me, ↓wM_sl, ↓wM_noP, ↓wM_part, ↓wM_key, ↓wM_call, ↓wM_argSA0, ↓wM_argSA, ↓wM_argS_fz, ↓wM_argS_ow, ↓wM_argS_nm, ↓wM_mut, ↓wM_yes, ↓wM_rng1, ↓wM_rng2, ↓wM_wkV, ↓wM_wkT, ↓wM_wkL, ↓wM_wk2, ↓wM_wkB, ↓wM_wkC, ↓wM_not, ↓wM_tru, ↓wM_and, ↓wM_or, ↓wM_andV, ↓wM_orV, ↓wM_notV, ↓wM_ifE, ↓wM_chain, ↓wM_chainT, ↓wM_dispN, ↓wM_pairs0, ↓wM_pairs, ↓wM_new, ↓wO_gsC, ↓wS_seq, ↓wS_pass, ↓wS_brk, ↓wS_cnt, ↓wS_ret, ↓wS_drop, ↓wS_if, ↓wS_set, ↓wS_asg, ↓wS_par, ↓wS_put, ↓wS_augS, ↓wS_aug, ↓wM_run', wO_some, varK_fz, varK_ow, varK_lk, lookK_fz, lookK_ow, lookK_lk, frzK_fz, frzK_ow, frzK_lk, argK_fz, argK_owt, argK_owf, argK_lkt, argK_lkf, mutK_ow', mutO_ow, putK'_ow, getK_ow, fzO_fz, augK_fz, intD_int, retK_fz, retK_ow, retK_nm, retO_fz, retO_ow, retO_lk, setR_fz, setR_ow, setR_nm, setK_fz, setK_ow, setK_lk, tru_b, tru_n, tru_l, tru_t, key_i, key_s, gIAdd_ii, gISub_ii, gPow_18, gN_ok, gsN_ok, gT_ok, setQs_nil, setQs_fz, setQs_ow, outP_t, outP_f, outP_n, wkO_fz, wkO_ow, wkO_lk, wk_fz, wk_ow, wk_nm, items_l, items_t, unl_none, unl_some, unlK_lk, callK_R, callR_fz, callR_ow, rest_nil, rest_cons, restK_some, wipe_nil, wipe_cons, gAdd_ii, gSub_ii, gMul_l, gMul_r, gDiv_ii, gMod_ii, gNeg_i, gEq_ii, gEq_ss, gEq_bb, gNe_ii, gNe_ss, gLt_ii, gLe_ii, gGt_ii, gGe_ii, gIx_l0, gIx_t0, gIx_l1, gIx_t1, gIx_l2, gIx_t2, gIx_t3, gLen_l, gLen_t, gLen_d, gAbs_i, gAppend_l, gExtend_l, gInt_i, gTuple_l, gTuple_t, gList_l, gList_t, gMax_ii, gMin_ii, gSum_l, gIs_none, isLst, isT, isOw, List.getElem?_cons_zero, List.getElem?_cons_succ, List.length_cons, List.length_nil, List.cons_append, List.nil_append, List.replicate, List.set_cons_zero, List.set_cons_succ, true_and, and_true, if_true, List.map_cons, List.map_nil, Nat.reduceAdd, Nat.reduceSub, Nat.reduceLT, Nat.reduceLeDiff, List.length_set, List.length_map, List.length_append, List.length_range, reduceIte, reduceDIte, Bool.false_eq_true, slotOf, wb, Option.getD_some, nmOk, heldR, List.all_cons, List.all_nil, List.any_cons, List.any_nil, isNm, Bool.and_true, Bool.true_and, Bool.false_and, Bool.and_false, Bool.not_false, Bool.not_true, Bool.or_false, gIx_lm]
      generalize (if script[k] < 0 then -script[k] else script[k]) = cell
      have inner : ∀ (ds : List Int) (mixed : Int) (s4 s5 s7 : Sl) (rest : Int), ds.length ≤ k * 62 + 2 → wS (dFor (dRng1 (dCons (dC (.int 60)) dNil)) (gN 7)
         ((dIf (dOp2T gGt (dVar 6) (dC (.int 0)))
         ((dSeq (dDrop (dMut 2 isLst true gAppend (dCons (dOp2 gMod (dB gInt (dCons (dVar 6) dNil)) (dC (.int 997))) dNil)))
         (dSet 6 (dOp2 gDiv (dVar 6) (dC (.int 997))))))
         (dPass)))) [.fz (.list (script.map .int)), .fz (.int many), .ow (.list (ds.map .int)), .fz (.int mixed), s4, s5, .fz (.int rest), s7]
         (fun ρ => ∃ (ds : List Int) (mixed : Int) (s4 s5 s6 s7 : Sl), ρ = [.fz (.list (script.map .int)), .fz (.int many), .ow (.list (ds.map .int)), .fz (.int mixed), s4, s5, s6, s7] ∧ ds.length ≤ (k + 1) * 62) (fun _ _ => False) nope nope := by
        intro ds mixed s4 s5 s7 rest hl
        refine wS_forI (by simp (disch := first | omega | (simp only [List.length_map, List.length_append, List.length_cons, List.length_nil, List.length_set, List.length_range, sizeLine_eq]; done) | (simp only [List.length_map, List.length_append, List.length_cons, List.length_nil, List.length_set, List.length_range, sizeLine_eq]; omega)) only [↓wM_bd, ↓wM_pr, ↓wM_opt, ↓wM_C, ↓wM_var, ↓wM_look_fz, ↓wM_look_ow, ↓wM_look_nm, ↓wM_frz_fz, ↓wM_frz_ow, ↓wM_frz_nm, ↓wM_op2, ↓wM_op2T, ↓wO_gB, ↓wM_op1, ↓wM_nil, ↓wM_cons, ↓wM_frzA0, ↓wM_frzA, ↓wM_lookA0, ↓wM_lookA, ↓wM_tup, ↓wM_lst, ↓wM_B, ↓wM_isi, ↓wM_me, ↓wM_sl, ↓wM_noP, ↓wM_part, ↓wM_key, ↓wM_call, ↓wM_argSA0, ↓wM_argSA, ↓wM_argS_fz, ↓wM_argS_ow, ↓wM_argS_nm, ↓wM_mut, ↓wM_yes, ↓wM_rng1, ↓wM_rng2, ↓wM_wkV, ↓wM_wkT, ↓wM_wkL, ↓wM_wk2, ↓wM_wkB, ↓wM_wkC, ↓wM_not, ↓wM_tru, ↓wM_and, ↓wM_or, ↓wM_andV, ↓wM_orV, ↓wM_notV, ↓wM_ifE, ↓wM_chain, ↓wM_chainT, ↓wM_dispN, ↓wM_pairs0, ↓wM_pairs, ↓wM_new, ↓wO_gsC, ↓wS_seq, ↓wS_pass, ↓wS_brk, ↓wS_cnt, ↓wS_ret, ↓wS_drop, ↓wS_if, ↓wS_set, ↓wS_asg, ↓wS_par, ↓wS_put, ↓wS_augS, ↓wS_aug, ↓wM_run', wO_some, varK_fz, varK_ow, varK_lk, lookK_fz, lookK_ow, lookK_lk, frzK_fz, frzK_ow, frzK_lk, argK_fz, argK_owt, argK_owf, argK_lkt, argK_lkf, mutK_ow', mutO_ow, putK'_ow, getK_ow, fzO_fz, augK_fz, intD_int, retK_fz, retK_ow, retK_nm, retO_fz, retO_ow, retO_lk, setR_fz, setR_ow, setR_nm, setK_fz, setK_ow, setK_lk, tru_b, tru_n, tru_l, tru_t, key_i, key_s, gIAdd_ii, gISub_ii, gPow_18, gN_ok, gsN_ok, gT_ok, setQs_nil, setQs_fz, setQs_ow, outP_t, outP_f, outP_n, wkO_fz, wkO_ow, wkO_lk, wk_fz, wk_ow, wk_nm, items_l, items_t, unl_none, unl_some, unlK_lk, callK_R, callR_fz, callR_ow, rest_nil, rest_cons, restK_some, wipe_nil, wipe_cons, gAdd_ii, gSub_ii, gMul_l, gMul_r, gDiv_ii, gMod_ii, gNeg_i, gEq_ii, gEq_ss, gEq_bb, gNe_ii, gNe_ss, gLt_ii, gLe_ii, gGt_ii, gGe_ii, gIx_l0, gIx_t0, gIx_l1, gIx_t1, gIx_l2, gIx_t2, gIx_t3, gLen_l, gLen_t, gLen_d, gAbs_i, gAppend_l, gExtend_l, gInt_i, gTuple_l, gTuple_t, gList_l, gList_t, gMax_ii, gMin_ii, gSum_l, gIs_none, isLst, isT, isOw, List.getElem?_cons_zero, List.getElem?_cons_succ, List.length_cons, List.length_nil, List.cons_append, List.nil_append, List.replicate, List.set_cons_zero, List.set_cons_succ, true_and, and_true, if_true, List.map_cons, List.map_nil, Nat.reduceAdd, Nat.reduceSub, Nat.reduceLT, Nat.reduceLeDiff, List.length_set, List.length_map, List.length_append, List.length_range, reduceIte, reduceDIte, Bool.false_eq_true, slotOf, wb, Option.getD_some, nmOk, heldR, List.all_cons, List.all_nil, List.any_cons, List.any_nil, isNm, Bool.and_true, Bool.true_and, Bool.false_and, Bool.and_false, Bool.not_false, Bool.not_true, Bool.or_false, rng1_ok, rng2_ok] <;> (first | exact ⟨rfl, rfl⟩ | exact rfl)) (fun j ρ => ∃ (ds : List Int) (rest : Int) (s7 : Sl), ρ = [.fz (.list (script.map .int)), .fz (.int many), .ow (.list (ds.map .int)), .fz (.int mixed), s4, s5, .fz (.int rest), s7] ∧ ds.length ≤ k * 62 + 2 + j) ⟨ds, rest, s7, rfl, hl⟩ ?_ ?_
        · intro j d ρ hd ⟨ds, rest, s7, e, hl⟩
          subst e
          obtain ⟨hj, rfl⟩ := at_rng hd
          have hj : j < 60 := by simpa using hj
          simp (disch := first | omega | (simp only [List.length_map, List.length_append, List.length_cons, List.length_nil, List.length_set, List.length_range, sizeLine_eq]; done) | (simp only [List.length_map, List.length_append, List.length_cons, List.length_nil, List.length_set, List.length_range, sizeLine_eq]; omega)) only [↓wM_bd, ↓wM_pr, ↓wM_opt, ↓wM_C, ↓wM_var, ↓wM_look_fz, ↓wM_look_ow, ↓wM_look_nm, ↓wM_frz_fz, ↓wM_frz_ow, ↓wM_frz_nm, ↓wM_op2, ↓wM_op2T, ↓wO_gB, ↓wM_op1, ↓wM_nil, ↓wM_cons, ↓wM_frzA0, ↓wM_frzA, ↓wM_lookA0, ↓wM_lookA, ↓wM_tup, ↓wM_lst, ↓wM_B, ↓wM_isi, ↓wM_me, ↓wM_sl, ↓wM_noP, ↓wM_part, ↓wM_key, ↓wM_call, ↓wM_argSA0, ↓wM_argSA, ↓wM_argS_fz, ↓wM_argS_ow, ↓wM_argS_nm, ↓wM_mut, ↓wM_yes, ↓wM_rng1, ↓wM_rng2, ↓wM_wkV, ↓wM_wkT, ↓wM_wkL, ↓wM_wk2, ↓wM_wkB, ↓wM_wkC, ↓wM_not, ↓wM_tru, ↓wM_and, ↓wM_or, ↓wM_andV, ↓wM_orV, ↓wM_notV, ↓wM_ifE, ↓wM_chain, ↓wM_chainT, ↓wM_dispN, ↓wM_pairs0, ↓wM_pairs, ↓wM_new, ↓wO_gsC, ↓wS_seq, ↓wS_pass, ↓wS_brk, ↓wS_cnt, ↓wS_ret, ↓wS_drop, ↓wS_if, ↓wS_set, ↓wS_asg, ↓wS_par, ↓wS_put, ↓wS_augS, ↓wS_aug, ↓wM_run', wO_some, varK_fz, varK_ow, varK_lk, lookK_fz, lookK_ow, lookK_lk, frzK_fz, frzK_ow, frzK_lk, argK_fz, argK_owt, argK_owf, argK_lkt, argK_lkf, mutK_ow', mutO_ow, putK'_ow, getK_ow, fzO_fz, augK_fz, intD_int, retK_fz, retK_ow, retK_nm, retO_fz, retO_ow, retO_lk, setR_fz, setR_ow, setR_nm, setK_fz, setK_ow, setK_lk, tru_b, tru_n, tru_l, tru_t, key_i, key_s, gIAdd_ii, gISub_ii, gPow_18, gN_ok, gsN_ok, gT_ok, setQs_nil, setQs_fz, setQs_ow, outP_t, outP_f, outP_n, wkO_fz, wkO_ow, wkO_lk, wk_fz, wk_ow, wk_nm, items_l, items_t, unl_none, unl_some, unlK_lk, callK_R, callR_fz, callR_ow, rest_nil, rest_cons, restK_some, wipe_nil, wipe_cons, gAdd_ii, gSub_ii, gMul_l, gMul_r, gDiv_ii, gMod_ii, gNeg_i, gEq_ii, gEq_ss, gEq_bb, gNe_ii, gNe_ss, gLt_ii, gLe_ii, gGt_ii, gGe_ii, gIx_l0, gIx_t0, gIx_l1, gIx_t1, gIx_l2, gIx_t2, gIx_t3, gLen_l, gLen_t, gLen_d, gAbs_i, gAppend_l, gExtend_l, gInt_i, gTuple_l, gTuple_t, gList_l, gList_t, gMax_ii, gMin_ii, gSum_l, gIs_none, isLst, isT, isOw, List.getElem?_cons_zero, List.getElem?_cons_succ, List.length_cons, List.length_nil, List.cons_append, List.nil_append, List.replicate, List.set_cons_zero, List.set_cons_succ, true_and, and_true, if_true, List.map_cons, List.map_nil, Nat.reduceAdd, Nat.reduceSub, Nat.reduceLT, Nat.reduceLeDiff, List.length_set, List.length_map, List.length_append, List.length_range, reduceIte, reduceDIte, Bool.false_eq_true, slotOf, wb, Option.getD_some, nmOk, heldR, List.all_cons, List.all_nil, List.any_cons, List.any_nil, isNm, Bool.and_true, Bool.true_and, Bool.false_and, Bool.and_false, Bool.not_false, Bool.not_true, Bool.or_false, gIx_lm]
          split
          · exact ⟨ds ++ [rest % 997], _, _, by rw [List.map_append]; rfl, by simp; omega⟩
          · exact ⟨ds, _, _, rfl, by omega⟩
        · intro ρ ⟨ds, rest, s7, e, hl⟩
          simp at hl
          exact ⟨ds, _, _, _, _, _, e, by omega⟩
      split
      · exact wS_mono (inner ds _ _ _ _ _ (by omega)) (fun _ h => h) (fun _ _ h => h.elim) (fun _ h => h.elim) (fun _ h => h.elim)
      · have := inner (ds ++ [cell % 997, ((mixed * 48271 + cell % 1000003 + (k : Int)) % 65537 * 69621 + 5) % 65521 % 997]) ((mixed * 48271 + cell % 1000003 + (k : Int)) % 65537) (.fz (.int k)) (.fz (.int cell)) s7 0 (by simp; omega)
        simp only [List.map_append, List.map_cons, List.map_nil] at this
        simp only [List.append_assoc, List.cons_append, List.nil_append]
        exact wS_mono this (fun _ h => h) (fun _ _ h => h.elim) (fun _ h => h.elim) (fun _ h => h.elim)
    · intro ρ ⟨ds, mixed, s4, s5, s6, s7, e, hl⟩
      subst e
      rw [unl_none]
      simp (disch := first | omega | (simp only [List.length_map, List.length_append, List.length_cons, List.length_nil, List.length_set, List.length_range, sizeLine_eq]; done) | (simp only [List.length_map, List.length_append, List.length_cons, List.length_nil, List.length_set, List.length_range, sizeLine_eq]; omega)) only [↓wM_bd, ↓wM_pr, ↓wM_opt, ↓wM_C, ↓wM_var, ↓wM_look_fz, ↓wM_look_ow, ↓wM_look_nm, ↓wM_frz_fz, ↓wM_frz_ow, ↓wM_frz_nm, ↓wM_op2, ↓wM_op2T, ↓wO_gB, ↓wM_op1, ↓wM_nil, ↓wM_cons, ↓wM_frzA0, ↓wM_frzA, ↓wM_lookA0, ↓wM_lookA, ↓wM_tup, ↓wM_lst, ↓wM_B, ↓wM_isi, ↓wM_me, ↓wM_sl, ↓wM_noP, ↓wM_part, ↓wM_key, ↓wM_call, ↓wM_argSA0, ↓wM_argSA, ↓wM_argS_fz, ↓wM_argS_ow, ↓wM_argS_nm, ↓wM_mut, ↓wM_yes, ↓wM_rng1, ↓wM_rng2, ↓wM_wkV, ↓wM_wkT, ↓wM_wkL, ↓wM_wk2, ↓wM_wkB, ↓wM_wkC, ↓wM_not, ↓wM_tru, ↓wM_and, ↓wM_or, ↓wM_andV, ↓wM_orV, ↓wM_notV, ↓wM_ifE, ↓wM_chain, ↓wM_chainT, ↓wM_dispN, ↓wM_pairs0, ↓wM_pairs, ↓wM_new, ↓wO_gsC, ↓wS_seq, ↓wS_pass, ↓wS_brk, ↓wS_cnt, ↓wS_ret, ↓wS_drop, ↓wS_if, ↓wS_set, ↓wS_asg, ↓wS_par, ↓wS_put, ↓wS_augS, ↓wS_aug, ↓wM_run', wO_some, varK_fz, varK_ow, varK_lk, lookK_fz, lookK_ow, lookK_lk, frzK_fz, frzK_ow, frzK_lk, argK_fz, argK_owt, argK_owf, argK_lkt, argK_lkf, mutK_ow', mutO_ow, putK'_ow, getK_ow, fzO_fz, augK_fz, intD_int, retK_fz, retK_ow, retK_nm, retO_fz, retO_ow, retO_lk, setR_fz, setR_ow, setR_nm, setK_fz, setK_ow, setK_lk, tru_b, tru_n, tru_l, tru_t, key_i, key_s, gIAdd_ii, gISub_ii, gPow_18, gN_ok, gsN_ok, gT_ok, setQs_nil, setQs_fz, setQs_ow, outP_t, outP_f, outP_n, wkO_fz, wkO_ow, wkO_lk, wk_fz, wk_ow, wk_nm, items_l, items_t, unl_none, unl_some, unlK_lk, callK_R, callR_fz, callR_ow, rest_nil, rest_cons, restK_some, wipe_nil, wipe_cons, gAdd_ii, gSub_ii, gMul_l, gMul_r, gDiv_ii, gMod_ii, gNeg_i, gEq_ii, gEq_ss, gEq_bb, gNe_ii, gNe_ss, gLt_ii, gLe_ii, gGt_ii, gGe_ii, gIx_l0, gIx_t0, gIx_l1, gIx_t1, gIx_l2, gIx_t2, gIx_t3, gLen_l, gLen_t, gLen_d, gAbs_i, gAppend_l, gExtend_l, gInt_i, gTuple_l, gTuple_t, gList_l, gList_t, gMax_ii, gMin_ii, gSum_l, gIs_none, isLst, isT, isOw, List.getElem?_cons_zero, List.getElem?_cons_succ, List.length_cons, List.length_nil, List.cons_append, List.nil_append, List.replicate, List.set_cons_zero, List.set_cons_succ, true_and, and_true, if_true, List.map_cons, List.map_nil, Nat.reduceAdd, Nat.reduceSub, Nat.reduceLT, Nat.reduceLeDiff, List.length_set, List.length_map, List.length_append, List.length_range, reduceIte, reduceDIte, Bool.false_eq_true, slotOf, wb, Option.getD_some, nmOk, heldR, List.all_cons, List.all_nil, List.any_cons, List.any_nil, isNm, Bool.and_true, Bool.true_and, Bool.false_and, Bool.and_false, Bool.not_false, Bool.not_true, Bool.or_false]
      refine wS_forI (by simp (disch := first | omega | (simp only [List.length_map, List.length_append, List.length_cons, List.length_nil, List.length_set, List.length_range, sizeLine_eq]; done) | (simp only [List.length_map, List.length_append, List.length_cons, List.length_nil, List.length_set, List.length_range, sizeLine_eq]; omega)) only [↓wM_bd, ↓wM_pr, ↓wM_opt, ↓wM_C, ↓wM_var, ↓wM_look_fz, ↓wM_look_ow, ↓wM_look_nm, ↓wM_frz_fz, ↓wM_frz_ow, ↓wM_frz_nm, ↓wM_op2, ↓wM_op2T, ↓wO_gB, ↓wM_op1, ↓wM_nil, ↓wM_cons, ↓wM_frzA0, ↓wM_frzA, ↓wM_lookA0, ↓wM_lookA, ↓wM_tup, ↓wM_lst, ↓wM_B, ↓wM_isi, ↓wM_me, ↓wM_sl, ↓wM_noP, ↓wM_part, ↓wM_key, ↓wM_call, ↓wM_argSA0, ↓wM_argSA, ↓wM_argS_fz, ↓wM_argS_ow, ↓wM_argS_nm, ↓wM_mut, ↓wM_yes, ↓wM_rng1, ↓wM_rng2, ↓wM_wkV, ↓wM_wkT, ↓wM_wkL, ↓wM_wk2, ↓wM_wkB, ↓wM_wkC, ↓wM_not, ↓wM_tru, ↓wM_and, ↓wM_or, ↓wM_andV, ↓wM_orV, ↓wM_notV, ↓wM_ifE, ↓wM_chain, ↓wM_chainT, ↓wM_dispN, ↓wM_pairs0, ↓wM_pairs, ↓wM_new, ↓wO_gsC, ↓wS_seq, ↓wS_pass, ↓wS_brk, ↓wS_cnt, ↓wS_ret, ↓wS_drop, ↓wS_if, ↓wS_set, ↓wS_asg, ↓wS_par, ↓wS_put, ↓wS_augS, ↓wS_aug, ↓wM_run', wO_some, varK_fz, varK_ow, varK_lk, lookK_fz, lookK_ow, lookK_lk, frzK_fz, frzK_ow, frzK_lk, argK_fz, argK_owt, argK_owf, argK_lkt, argK_lkf, mutK_ow', mutO_ow, putK'_ow, getK_ow, fzO_fz, augK_fz, intD_int, retK_fz, retK_ow, retK_nm, retO_fz, retO_ow, retO_lk, setR_fz, setR_ow, setR_nm, setK_fz, setK_ow, setK_lk, tru_b, tru_n, tru_l, tru_t, key_i, key_s, gIAdd_ii, gISub_ii, gPow_18, gN_ok, gsN_ok, gT_ok, setQs_nil, setQs_fz, setQs_ow, outP_t, outP_f, outP_n, wkO_fz, wkO_ow, wkO_lk, wk_fz, wk_ow, wk_nm, items_l, items_t, unl_none, unl_some, unlK_lk, callK_R, callR_fz, callR_ow, rest_nil, rest_cons, restK_some, wipe_nil, wipe_cons, gAdd_ii, gSub_ii, gMul_l, gMul_r, gDiv_ii, gMod_ii, gNeg_i, gEq_ii, gEq_ss, gEq_bb, gNe_ii, gNe_ss, gLt_ii, gLe_ii, gGt_ii, gGe_ii, gIx_l0, gIx_t0, gIx_l1, gIx_t1, gIx_l2, gIx_t2, gIx_t3, gLen_l, gLen_t, gLen_d, gAbs_i, gAppend_l, gExtend_l, gInt_i, gTuple_l, gTuple_t, gList_l, gList_t, gMax_ii, gMin_ii, gSum_l, gIs_none, isLst, isT, isOw, List.getElem?_cons_zero, List.getElem?_cons_succ, List.length_cons, List.length_nil, List.cons_append, List.nil_append, List.replicate, List.set_cons_zero, List.set_cons_succ, true_and, and_true, if_true, List.map_cons, List.map_nil, Nat.reduceAdd, Nat.reduceSub, Nat.reduceLT, Nat.reduceLeDiff, List.length_set, List.length_map, List.length_append, List.length_range, reduceIte, reduceDIte, Bool.false_eq_true, slotOf, wb, Option.getD_some, nmOk, heldR, List.all_cons, List.all_nil, List.any_cons, List.any_nil, isNm, Bool.and_true, Bool.true_and, Bool.false_and, Bool.and_false, Bool.not_false, Bool.not_true, Bool.or_false, rng1_ok, rng2_ok] <;> (first | exact ⟨rfl, rfl⟩ | exact rfl)) (fun j ρ => ∃ (ds : List Int) (mixed : Int) (s4 s5 s6 s7 : Sl), ρ = [.fz (.list (script.map .int)), .fz (.int many), .ow (.list (ds.map .int)), .fz (.int mixed), s4, s5, s6, s7] ∧ ds.length ≤ 4000 + j) ⟨ds, mixed, _, _, _, _, rfl, by simp at hl; omega⟩ ?_ ?_
      · intro k d ρ hd ⟨ds, mixed, s4, s5, s6, s7, e, hl⟩
        subst e
        obtain ⟨hk, rfl⟩ := at_rng hd
        rw [Int.toNat_natCast] at hk
        simp (disch := first | omega | (simp only [List.length_map, List.length_append, List.length_cons, List.length_nil, List.length_set, List.length_range, sizeLine_eq]; done) | (simp only [List.length_map, List.length_append, List.length_cons, List.length_nil, List.length_set, List.length_range, sizeLine_eq]; omega)) only [↓wM_bd, ↓wM_pr, ↓wM_opt, ↓wM_C, ↓wM_var, ↓wM_look_fz, ↓wM_look_ow, ↓wM_look_nm, ↓wM_frz_fz, ↓wM_frz_ow, ↓wM_frz_nm, ↓wM_op2, ↓wM_op2T, ↓wO_gB, ↓wM_op1, ↓wM_nil, ↓wM_cons, ↓wM_frzA0, ↓wM_frzA, ↓wM_lookA0, ↓wM_lookA, ↓wM_tup, ↓wM_lst, ↓wM_B, ↓wM_isi, ↓wM_me, ↓wM_sl, ↓wM_noP, ↓wM_part, ↓wM_key, ↓wM_call, ↓wM_argSA0, ↓wM_argSA, ↓wM_argS_fz, ↓wM_argS_ow, ↓wM_argS_nm, ↓wM_mut, ↓wM_yes, ↓wM_rng1, ↓wM_rng2, ↓wM_wkV, ↓wM_wkT, ↓wM_wkL, ↓wM_wk2, ↓wM_wkB, ↓wM_wkC, ↓wM_not, ↓wM_tru, ↓wM_and, ↓wM_or, ↓wM_andV, ↓wM_orV, ↓wM_notV, ↓wM_ifE, ↓wM_chain, ↓wM_chainT, ↓wM_dispN, ↓wM_pairs0, ↓wM_pairs, ↓wM_new, ↓wO_gsC, ↓wS_seq, ↓wS_pass, ↓wS_brk, ↓wS_cnt, ↓wS_ret, ↓wS_drop, ↓wS_if, ↓wS_set, ↓wS_asg, ↓wS_par, ↓wS_put, ↓wS_augS, ↓wS_aug, ↓wM_run', wO_some, varK_fz, varK_ow, varK_lk, lookK_fz, lookK_ow, lookK_lk, frzK_fz, frzK_ow, frzK_lk, argK_fz, argK_owt, argK_owf, argK_lkt, argK_lkf, mutK_ow', mutO_ow, putK'_ow, getK_ow, fzO_fz, augK_fz, intD_int, retK_fz, retK_ow, retK_nm, retO_fz, retO_ow, retO_lk, setR_fz, setR_ow, setR_nm, setK_fz, setK_ow, setK_lk, tru_b, tru_n, tru_l, tru_t, key_i, key_s, gIAdd_ii, gISub_ii, gPow_18, gN_ok, gsN_ok, gT_ok, setQs_nil, setQs_fz, setQs_ow, outP_t, outP_f, outP_n, wkO_fz, wkO_ow, wkO_lk, wk_fz, wk_ow, wk_nm, items_l, items_t, unl_none, unl_some, unlK_lk, callK_R, callR_fz, callR_ow, rest_nil, rest_cons, restK_some, wipe_nil, wipe_cons, gAdd_ii, gSub_ii, gMul_l, gMul_r, gDiv_ii, gMod_ii, gNeg_i, gEq_ii, gEq_ss, gEq_bb, gNe_ii, gNe_ss, gLt_ii, gLe_ii, gGt_ii, gGe_ii, gIx_l0, gIx_t0, gIx_l1, gIx_t1, gIx_l2, gIx_t2, gIx_t3, gLen_l, gLen_t, gLen_d, gAbs_i, gAppend_l, gExtend_l, gInt_i, gTuple_l, gTuple_t, gList_l, gList_t, gMax_ii, gMin_ii, gSum_l, gIs_none, isLst, isT, isOw, List.getElem?_cons_zero, List.getElem?_cons_succ, List.length_cons, List.length_nil, List.cons_append, List.nil_append, List.replicate, List.set_cons_zero, List.set_cons_succ, true_and, and_true, if_true, List.map_cons, List.map_nil, Nat.reduceAdd, Nat.reduceSub, Nat.reduceLT, Nat.reduceLeDiff, List.length_set, List.length_map, List.length_append, List.length_range, reduceIte, reduceDIte, Bool.false_eq_true, slotOf, wb, Option.getD_some, nmOk, heldR, List.all_cons, List.all_nil, List.any_cons, List.any_nil, isNm, Bool.and_true, Bool.true_and, Bool.false_and, Bool.and_false, Bool.not_false, Bool.not_true, Bool.or_false]
        exact ⟨ds ++ [(mixed * 16807 + k + 1) % 65537 % 997], (mixed * 16807 + k + 1) % 65537, _, _, _, _, by rw [List.map_append]; rfl, by simp; omega⟩
      · intro ρ ⟨ds, mixed, s4, s5, s6, s7, e, hl⟩
        subst e
        rw [unl_none]
        simp (disch := first | omega | (simp only [List.length_map, List.length_append, List.length_cons, List.length_nil, List.length_set, List.length_range, sizeLine_eq]; done) | (simp only [List.length_map, List.length_append, List.length_cons, List.length_nil, List.length_set, List.length_range, sizeLine_eq]; omega)) only [↓wM_bd, ↓wM_pr, ↓wM_opt, ↓wM_C, ↓wM_var, ↓wM_look_fz, ↓wM_look_ow, ↓wM_look_nm, ↓wM_frz_fz, ↓wM_frz_ow, ↓wM_frz_nm, ↓wM_op2, ↓wM_op2T, ↓wO_gB, ↓wM_op1, ↓wM_nil, ↓wM_cons, ↓wM_frzA0, ↓wM_frzA, ↓wM_lookA0, ↓wM_lookA, ↓wM_tup, ↓wM_lst, ↓wM_B, ↓wM_isi, ↓wM_me, ↓wM_sl, ↓wM_noP, ↓wM_part, ↓wM_key, ↓wM_call, ↓wM_argSA0, ↓wM_argSA, ↓wM_argS_fz, ↓wM_argS_ow, ↓wM_argS_nm, ↓wM_mut, ↓wM_yes, ↓wM_rng1, ↓wM_rng2, ↓wM_wkV, ↓wM_wkT, ↓wM_wkL, ↓wM_wk2, ↓wM_wkB, ↓wM_wkC, ↓wM_not, ↓wM_tru, ↓wM_and, ↓wM_or, ↓wM_andV, ↓wM_orV, ↓wM_notV, ↓wM_ifE, ↓wM_chain, ↓wM_chainT, ↓wM_dispN, ↓wM_pairs0, ↓wM_pairs, ↓wM_new, ↓wO_gsC, ↓wS_seq, ↓wS_pass, ↓wS_brk, ↓wS_cnt, ↓wS_ret, ↓wS_drop, ↓wS_if, ↓wS_set, ↓wS_asg, ↓wS_par, ↓wS_put, ↓wS_augS, ↓wS_aug, ↓wM_run', wO_some, varK_fz, varK_ow, varK_lk, lookK_fz, lookK_ow, lookK_lk, frzK_fz, frzK_ow, frzK_lk, argK_fz, argK_owt, argK_owf, argK_lkt, argK_lkf, mutK_ow', mutO_ow, putK'_ow, getK_ow, fzO_fz, augK_fz, intD_int, retK_fz, retK_ow, retK_nm, retO_fz, retO_ow, retO_lk, setR_fz, setR_ow, setR_nm, setK_fz, setK_ow, setK_lk, tru_b, tru_n, tru_l, tru_t, key_i, key_s, gIAdd_ii, gISub_ii, gPow_18, gN_ok, gsN_ok, gT_ok, setQs_nil, setQs_fz, setQs_ow, outP_t, outP_f, outP_n, wkO_fz, wkO_ow, wkO_lk, wk_fz, wk_ow, wk_nm, items_l, items_t, unl_none, unl_some, unlK_lk, callK_R, callR_fz, callR_ow, rest_nil, rest_cons, restK_some, wipe_nil, wipe_cons, gAdd_ii, gSub_ii, gMul_l, gMul_r, gDiv_ii, gMod_ii, gNeg_i, gEq_ii, gEq_ss, gEq_bb, gNe_ii, gNe_ss, gLt_ii, gLe_ii, gGt_ii, gGe_ii, gIx_l0, gIx_t0, gIx_l1, gIx_t1, gIx_l2, gIx_t2, gIx_t3, gLen_l, gLen_t, gLen_d, gAbs_i, gAppend_l, gExtend_l, gInt_i, gTuple_l, gTuple_t, gList_l, gList_t, gMax_ii, gMin_ii, gSum_l, gIs_none, isLst, isT, isOw, List.getElem?_cons_zero, List.getElem?_cons_succ, List.length_cons, List.length_nil, List.cons_append, List.nil_append, List.replicate, List.set_cons_zero, List.set_cons_succ, true_and, and_true, if_true, List.map_cons, List.map_nil, Nat.reduceAdd, Nat.reduceSub, Nat.reduceLT, Nat.reduceLeDiff, List.length_set, List.length_map, List.length_append, List.length_range, reduceIte, reduceDIte, Bool.false_eq_true, slotOf, wb, Option.getD_some, nmOk, heldR, List.all_cons, List.all_nil, List.any_cons, List.any_nil, isNm, Bool.and_true, Bool.true_and, Bool.false_and, Bool.and_false, Bool.not_false, Bool.not_true, Bool.or_false, gSl]
        refine ⟨ds.take many, ?_⟩
        unfold cutD
        simp [HT.sIx_nat, HT.sIx_none]
  obtain ⟨r, ρ', e, ds, rfl, rfl⟩ := wM_iff.mp key
  exact ⟨ds, e⟩
end DL

namespace DL
open PySem L2
def pickB (next : M Rs) : DS := dRet (dOp2 gIx (dVar 1) (dCall [true, true] next (dCons (dVar 0) (dCons (dB gLen (dCons (dVar 1) dNil)) dNil))))
def pickF : M Rs := runDef [true, true] 2 (pickB nextF)
def saysB : DS := (dRet (dAndV (dIsi .bool (dVar 0)) (dOp2 (gB gEq) (dVar 0) (dVar 1))))
def saysF : M Rs := runDef [true, true] 2 saysB
theorem says_ok (b : Bool) : saysF [.fz (.bool b), .fz (.bool b)] = .ok (.fz (.bool true)) [.fz (.bool b), .fz (.bool b)] := by
  apply run_eq
  unfold saysB
  simp (disch := first | omega | (simp only [List.length_map, List.length_append, List.length_cons, List.length_nil, List.length_set, List.length_range, sizeLine_eq]; done) | (simp only [List.length_map, List.length_append, List.length_cons, List.length_nil, List.length_set, List.length_range, sizeLine_eq]; omega)) only [↓wM_bd, ↓wM_pr, ↓wM_opt, ↓wM_C, ↓wM_var, ↓wM_look_fz, ↓wM_look_ow, ↓wM_look_nm, ↓wM_frz_fz, ↓wM_frz_ow, ↓wM_frz_nm, ↓wM_op2, ↓wM_op2T, ↓wO_gB, ↓wM_op1, ↓wM_nil, ↓wM_cons, ↓wM_frzA0, ↓wM_frzA, ↓wM_lookA0, ↓wM_lookA, ↓wM_tup, ↓wM_lst, ↓wM_B, ↓wM_isi, ↓wM_me, ↓wM_sl, ↓wM_noP, ↓wM_part, ↓wM_key, ↓wM_call, ↓wM_argSA0, ↓wM_argSA, ↓wM_argS_fz, ↓wM_argS_ow, ↓wM_argS_nm, ↓wM_mut, ↓wM_yes, ↓wM_rng1, ↓wM_rng2, ↓wM_wkV, ↓wM_wkT, ↓wM_wkL, ↓wM_wk2, ↓wM_wkB, ↓wM_wkC, ↓wM_not, ↓wM_tru, ↓wM_and, ↓wM_or, ↓wM_andV, ↓wM_orV, ↓wM_notV, ↓wM_ifE, ↓wM_chain, ↓wM_chainT, ↓wM_dispN, ↓wM_pairs0, ↓wM_pairs, ↓wM_new, ↓wO_gsC, ↓wS_seq, ↓wS_pass, ↓wS_brk, ↓wS_cnt, ↓wS_ret, ↓wS_drop, ↓wS_if, ↓wS_set, ↓wS_asg, ↓wS_par, ↓wS_put, ↓wS_augS, ↓wS_aug, ↓wM_run', wO_some, varK_fz, varK_ow, varK_lk, lookK_fz, lookK_ow, lookK_lk, frzK_fz, frzK_ow, frzK_lk, argK_fz, argK_owt, argK_owf, argK_lkt, argK_lkf, mutK_ow', mutO_ow, putK'_ow, getK_ow, fzO_fz, augK_fz, intD_int, retK_fz, retK_ow, retK_nm, retO_fz, retO_ow, retO_lk, setR_fz, setR_ow, setR_nm, setK_fz, setK_ow, setK_lk, tru_b, tru_n, tru_l, tru_t, key_i, key_s, gIAdd_ii, gISub_ii, gPow_18, gN_ok, gsN_ok, gT_ok, setQs_nil, setQs_fz, setQs_ow, outP_t, outP_f, outP_n, wkO_fz, wkO_ow, wkO_lk, wk_fz, wk_ow, wk_nm, items_l, items_t, unl_none, unl_some, unlK_lk, callK_R, callR_fz, callR_ow, rest_nil, rest_cons, restK_some, wipe_nil, wipe_cons, gAdd_ii, gSub_ii, gMul_l, gMul_r, gDiv_ii, gMod_ii, gNeg_i, gEq_ii, gEq_ss, gEq_bb, gNe_ii, gNe_ss, gLt_ii, gLe_ii, gGt_ii, gGe_ii, gIx_l0, gIx_t0, gIx_l1, gIx_t1, gIx_l2, gIx_t2, gIx_t3, gLen_l, gLen_t, gLen_d, gAbs_i, gAppend_l, gExtend_l, gInt_i, gTuple_l, gTuple_t, gList_l, gList_t, gMax_ii, gMin_ii, gSum_l, gIs_none, isLst, isT, isOw, List.getElem?_cons_zero, List.getElem?_cons_succ, List.length_cons, List.length_nil, List.cons_append, List.nil_append, List.replicate, List.set_cons_zero, List.set_cons_succ, true_and, and_true, if_true, List.map_cons, List.map_nil, Nat.reduceAdd, Nat.reduceSub, Nat.reduceLT, Nat.reduceLeDiff, List.length_set, List.length_map, List.length_append, List.length_range, reduceIte, reduceDIte, Bool.false_eq_true, slotOf, wb, Option.getD_some, nmOk, heldR, List.all_cons, List.all_nil, List.any_cons, List.any_nil, isNm, Bool.and_true, Bool.true_and, Bool.false_and, Bool.and_false, Bool.not_false, Bool.not_true, Bool.or_false, decide_true]
def sameB (self : M Rs) : DS :=
 (dSeq (dIf (dTru (dIsi .tuple (dVar 1)))
 ((dSeq (dIf (dOr (dNot (dTru (dIsi .tuple (dVar 0)))) (dOp2T gNe (dB gLen (dCons (dVar 0) dNil)) (dB gLen (dCons (dVar 1) dNil))))
 ((dRet (dC (.bool false))))
 (dPass))
 (dRet (dOp2 (gB gEq) (dLc [2] (dRng1 (dCons (dB gLen (dCons (dVar 1) dNil)) dNil)) (gN 2) (dNot (dTru (dCall [true, true] self (dCons (dOp2 gIx (dVar 0) (dVar 2)) (dCons (dOp2 gIx (dVar 1) (dVar 2)) dNil))))) (dVar 2)) (dLst dNil)))))
 (dPass))
 (dSeq (dIf (dOp2T gIs (dVar 1) (dC .none))
 ((dRet (dOp2 (gB gIs) (dVar 0) (dC .none))))
 (dPass))
 (dSeq (dIf (dTru (dIsi .str (dVar 1)))
 ((dRet (dAndV (dIsi .str (dVar 0)) (dOp2 (gB gEq) (dVar 0) (dVar 1)))))
 (dPass))
 (dRet (dAndV (dIsi .int (dVar 0)) (dAndV (dOp2 (gB gEq) (dIsi .bool (dVar 0)) (dIsi .bool (dVar 1))) (dOp2 (gB gEq) (dVar 0) (dVar 1))))))))
def sameF : Nat → M Rs
  | 0 => fun _ => .bad
  | d + 1 => runDef [true, true] 3 (sameB (sameF d))
/-- data of tuples, to a depth -/
def okV : Nat → D → Prop
  | 0, _ => False
  | n + 1, .tuple ds => ds.length ≤ 100000 ∧ ∀ d ∈ ds, okV n d
  | _ + 1, .int _ => True
  | _ + 1, .str _ => True
  | _ + 1, .bool _ => True
  | _ + 1, .none => True
  | _ + 1, _ => False
theorem isNone_t {ds : List D} : isNone (.tuple ds) = false := rfl
theorem isNone_i {i : Int} : isNone (.int i) = false := rfl
theorem isNone_s {i : Str} : isNone (.str i) = false := rfl
theorem isNone_b {i : Bool} : isNone (.bool i) = false := rfl
theorem isNone_n : isNone .none = true := rfl
theorem filter_no {α β : Type} {xs : List α} {f : α → β} : (xs.filter (fun _ => false)).map f = [] := by simp
theorem gEq_nil : gEq (.list []) (.list []) = some true := by rfl
theorem same_ok : ∀ (n : Nat) (d : D), okV n d → sameF n [.fz d, .fz d] = .ok (.fz (.bool true)) [.fz d, .fz d]
  | 0, _, h => h.elim
  | n + 1, .int i, _ => by
    unfold sameF
    apply run_eq
    unfold sameB
    simp (disch := first | omega | (simp only [List.length_map, List.length_append, List.length_cons, List.length_nil, List.length_set, List.length_range, sizeLine_eq]; done) | (simp only [List.length_map, List.length_append, List.length_cons, List.length_nil, List.length_set, List.length_range, sizeLine_eq]; omega)) only [↓wM_bd, ↓wM_pr, ↓wM_opt, ↓wM_C, ↓wM_var, ↓wM_look_fz, ↓wM_look_ow, ↓wM_look_nm, ↓wM_frz_fz, ↓wM_frz_ow, ↓wM_frz_nm, ↓wM_op2, ↓wM_op2T, ↓wO_gB, ↓wM_op1, ↓wM_nil, ↓wM_cons, ↓wM_frzA0, ↓wM_frzA, ↓wM_lookA0, ↓wM_lookA, ↓wM_tup, ↓wM_lst, ↓wM_B, ↓wM_isi, ↓wM_me, ↓wM_sl, ↓wM_noP, ↓wM_part, ↓wM_key, ↓wM_call, ↓wM_argSA0, ↓wM_argSA, ↓wM_argS_fz, ↓wM_argS_ow, ↓wM_argS_nm, ↓wM_mut, ↓wM_yes, ↓wM_rng1, ↓wM_rng2, ↓wM_wkV, ↓wM_wkT, ↓wM_wkL, ↓wM_wk2, ↓wM_wkB, ↓wM_wkC, ↓wM_not, ↓wM_tru, ↓wM_and, ↓wM_or, ↓wM_andV, ↓wM_orV, ↓wM_notV, ↓wM_ifE, ↓wM_chain, ↓wM_chainT, ↓wM_dispN, ↓wM_pairs0, ↓wM_pairs, ↓wM_new, ↓wO_gsC, ↓wS_seq, ↓wS_pass, ↓wS_brk, ↓wS_cnt, ↓wS_ret, ↓wS_drop, ↓wS_if, ↓wS_set, ↓wS_asg, ↓wS_par, ↓wS_put, ↓wS_augS, ↓wS_aug, ↓wM_run', wO_some, varK_fz, varK_ow, varK_lk, lookK_fz, lookK_ow, lookK_lk, frzK_fz, frzK_ow, frzK_lk, argK_fz, argK_owt, argK_owf, argK_lkt, argK_lkf, mutK_ow', mutO_ow, putK'_ow, getK_ow, fzO_fz, augK_fz, intD_int, retK_fz, retK_ow, retK_nm, retO_fz, retO_ow, retO_lk, setR_fz, setR_ow, setR_nm, setK_fz, setK_ow, setK_lk, tru_b, tru_n, tru_l, tru_t, key_i, key_s, gIAdd_ii, gISub_ii, gPow_18, gN_ok, gsN_ok, gT_ok, setQs_nil, setQs_fz, setQs_ow, outP_t, outP_f, outP_n, wkO_fz, wkO_ow, wkO_lk, wk_fz, wk_ow, wk_nm, items_l, items_t, unl_none, unl_some, unlK_lk, callK_R, callR_fz, callR_ow, rest_nil, rest_cons, restK_some, wipe_nil, wipe_cons, gAdd_ii, gSub_ii, gMul_l, gMul_r, gDiv_ii, gMod_ii, gNeg_i, gEq_ii, gEq_ss, gEq_bb, gNe_ii, gNe_ss, gLt_ii, gLe_ii, gGt_ii, gGe_ii, gIx_l0, gIx_t0, gIx_l1, gIx_t1, gIx_l2, gIx_t2, gIx_t3, gLen_l, gLen_t, gLen_d, gAbs_i, gAppend_l, gExtend_l, gInt_i, gTuple_l, gTuple_t, gList_l, gList_t, gMax_ii, gMin_ii, gSum_l, gIs_none, isLst, isT, isOw, List.getElem?_cons_zero, List.getElem?_cons_succ, List.length_cons, List.length_nil, List.cons_append, List.nil_append, List.replicate, List.set_cons_zero, List.set_cons_succ, true_and, and_true, if_true, List.map_cons, List.map_nil, Nat.reduceAdd, Nat.reduceSub, Nat.reduceLT, Nat.reduceLeDiff, List.length_set, List.length_map, List.length_append, List.length_range, reduceIte, reduceDIte, Bool.false_eq_true, slotOf, wb, Option.getD_some, nmOk, heldR, List.all_cons, List.all_nil, List.any_cons, List.any_nil, isNm, Bool.and_true, Bool.true_and, Bool.false_and, Bool.and_false, Bool.not_false, Bool.not_true, Bool.or_false, decide_true, isNone_i]
  | n + 1, .str i, _ => by
    unfold sameF
    apply run_eq
    unfold sameB
    simp (disch := first | omega | (simp only [List.length_map, List.length_append, List.length_cons, List.length_nil, List.length_set, List.length_range, sizeLine_eq]; done) | (simp only [List.length_map, List.length_append, List.length_cons, List.length_nil, List.length_set, List.length_range, sizeLine_eq]; omega)) only [↓wM_bd, ↓wM_pr, ↓wM_opt, ↓wM_C, ↓wM_var, ↓wM_look_fz, ↓wM_look_ow, ↓wM_look_nm, ↓wM_frz_fz, ↓wM_frz_ow, ↓wM_frz_nm, ↓wM_op2, ↓wM_op2T, ↓wO_gB, ↓wM_op1, ↓wM_nil, ↓wM_cons, ↓wM_frzA0, ↓wM_frzA, ↓wM_lookA0, ↓wM_lookA, ↓wM_tup, ↓wM_lst, ↓wM_B, ↓wM_isi, ↓wM_me, ↓wM_sl, ↓wM_noP, ↓wM_part, ↓wM_key, ↓wM_call, ↓wM_argSA0, ↓wM_argSA, ↓wM_argS_fz, ↓wM_argS_ow, ↓wM_argS_nm, ↓wM_mut, ↓wM_yes, ↓wM_rng1, ↓wM_rng2, ↓wM_wkV, ↓wM_wkT, ↓wM_wkL, ↓wM_wk2, ↓wM_wkB, ↓wM_wkC, ↓wM_not, ↓wM_tru, ↓wM_and, ↓wM_or, ↓wM_andV, ↓wM_orV, ↓wM_notV, ↓wM_ifE, ↓wM_chain, ↓wM_chainT, ↓wM_dispN, ↓wM_pairs0, ↓wM_pairs, ↓wM_new, ↓wO_gsC, ↓wS_seq, ↓wS_pass, ↓wS_brk, ↓wS_cnt, ↓wS_ret, ↓wS_drop, ↓wS_if, ↓wS_set, ↓wS_asg, ↓wS_par, ↓wS_put, ↓wS_augS, ↓wS_aug, ↓wM_run', wO_some, varK_fz, varK_ow, varK_lk, lookK_fz, lookK_ow, lookK_lk, frzK_fz, frzK_ow, frzK_lk, argK_fz, argK_owt, argK_owf, argK_lkt, argK_lkf, mutK_ow', mutO_ow, putK'_ow, getK_ow, fzO_fz, augK_fz, intD_int, retK_fz, retK_ow, retK_nm, retO_fz, retO_ow, retO_lk, setR_fz, setR_ow, setR_nm, setK_fz, setK_ow, setK_lk, tru_b, tru_n, tru_l, tru_t, key_i, key_s, gIAdd_ii, gISub_ii, gPow_18, gN_ok, gsN_ok, gT_ok, setQs_nil, setQs_fz, setQs_ow, outP_t, outP_f, outP_n, wkO_fz, wkO_ow, wkO_lk, wk_fz, wk_ow, wk_nm, items_l, items_t, unl_none, unl_some, unlK_lk, callK_R, callR_fz, callR_ow, rest_nil, rest_cons, restK_some, wipe_nil, wipe_cons, gAdd_ii, gSub_ii, gMul_l, gMul_r, gDiv_ii, gMod_ii, gNeg_i, gEq_ii, gEq_ss, gEq_bb, gNe_ii, gNe_ss, gLt_ii, gLe_ii, gGt_ii, gGe_ii, gIx_l0, gIx_t0, gIx_l1, gIx_t1, gIx_l2, gIx_t2, gIx_t3, gLen_l, gLen_t, gLen_d, gAbs_i, gAppend_l, gExtend_l, gInt_i, gTuple_l, gTuple_t, gList_l, gList_t, gMax_ii, gMin_ii, gSum_l, gIs_none, isLst, isT, isOw, List.getElem?_cons_zero, List.getElem?_cons_succ, List.length_cons, List.length_nil, List.cons_append, List.nil_append, List.replicate, List.set_cons_zero, List.set_cons_succ, true_and, and_true, if_true, List.map_cons, List.map_nil, Nat.reduceAdd, Nat.reduceSub, Nat.reduceLT, Nat.reduceLeDiff, List.length_set, List.length_map, List.length_append, List.length_range, reduceIte, reduceDIte, Bool.false_eq_true, slotOf, wb, Option.getD_some, nmOk, heldR, List.all_cons, List.all_nil, List.any_cons, List.any_nil, isNm, Bool.and_true, Bool.true_and, Bool.false_and, Bool.and_false, Bool.not_false, Bool.not_true, Bool.or_false, decide_true, isNone_s]
  | n + 1, .bool i, _ => by
    unfold sameF
    apply run_eq
    unfold sameB
    simp (disch := first | omega | (simp only [List.length_map, List.length_append, List.length_cons, List.length_nil, List.length_set, List.length_range, sizeLine_eq]; done) | (simp only [List.length_map, List.length_append, List.length_cons, List.length_nil, List.length_set, List.length_range, sizeLine_eq]; omega)) only [↓wM_bd, ↓wM_pr, ↓wM_opt, ↓wM_C, ↓wM_var, ↓wM_look_fz, ↓wM_look_ow, ↓wM_look_nm, ↓wM_frz_fz, ↓wM_frz_ow, ↓wM_frz_nm, ↓wM_op2, ↓wM_op2T, ↓wO_gB, ↓wM_op1, ↓wM_nil, ↓wM_cons, ↓wM_frzA0, ↓wM_frzA, ↓wM_lookA0, ↓wM_lookA, ↓wM_tup, ↓wM_lst, ↓wM_B, ↓wM_isi, ↓wM_me, ↓wM_sl, ↓wM_noP, ↓wM_part, ↓wM_key, ↓wM_call, ↓wM_argSA0, ↓wM_argSA, ↓wM_argS_fz, ↓wM_argS_ow, ↓wM_argS_nm, ↓wM_mut, ↓wM_yes, ↓wM_rng1, ↓wM_rng2, ↓wM_wkV, ↓wM_wkT, ↓wM_wkL, ↓wM_wk2, ↓wM_wkB, ↓wM_wkC, ↓wM_not, ↓wM_tru, ↓wM_and, ↓wM_or, ↓wM_andV, ↓wM_orV, ↓wM_notV, ↓wM_ifE, ↓wM_chain, ↓wM_chainT, ↓wM_dispN, ↓wM_pairs0, ↓wM_pairs, ↓wM_new, ↓wO_gsC, ↓wS_seq, ↓wS_pass, ↓wS_brk, ↓wS_cnt, ↓wS_ret, ↓wS_drop, ↓wS_if, ↓wS_set, ↓wS_asg, ↓wS_par, ↓wS_put, ↓wS_augS, ↓wS_aug, ↓wM_run', wO_some, varK_fz, varK_ow, varK_lk, lookK_fz, lookK_ow, lookK_lk, frzK_fz, frzK_ow, frzK_lk, argK_fz, argK_owt, argK_owf, argK_lkt, argK_lkf, mutK_ow', mutO_ow, putK'_ow, getK_ow, fzO_fz, augK_fz, intD_int, retK_fz, retK_ow, retK_nm, retO_fz, retO_ow, retO_lk, setR_fz, setR_ow, setR_nm, setK_fz, setK_ow, setK_lk, tru_b, tru_n, tru_l, tru_t, key_i, key_s, gIAdd_ii, gISub_ii, gPow_18, gN_ok, gsN_ok, gT_ok, setQs_nil, setQs_fz, setQs_ow, outP_t, outP_f, outP_n, wkO_fz, wkO_ow, wkO_lk, wk_fz, wk_ow, wk_nm, items_l, items_t, unl_none, unl_some, unlK_lk, callK_R, callR_fz, callR_ow, rest_nil, rest_cons, restK_some, wipe_nil, wipe_cons, gAdd_ii, gSub_ii, gMul_l, gMul_r, gDiv_ii, gMod_ii, gNeg_i, gEq_ii, gEq_ss, gEq_bb, gNe_ii, gNe_ss, gLt_ii, gLe_ii, gGt_ii, gGe_ii, gIx_l0, gIx_t0, gIx_l1, gIx_t1, gIx_l2, gIx_t2, gIx_t3, gLen_l, gLen_t, gLen_d, gAbs_i, gAppend_l, gExtend_l, gInt_i, gTuple_l, gTuple_t, gList_l, gList_t, gMax_ii, gMin_ii, gSum_l, gIs_none, isLst, isT, isOw, List.getElem?_cons_zero, List.getElem?_cons_succ, List.length_cons, List.length_nil, List.cons_append, List.nil_append, List.replicate, List.set_cons_zero, List.set_cons_succ, true_and, and_true, if_true, List.map_cons, List.map_nil, Nat.reduceAdd, Nat.reduceSub, Nat.reduceLT, Nat.reduceLeDiff, List.length_set, List.length_map, List.length_append, List.length_range, reduceIte, reduceDIte, Bool.false_eq_true, slotOf, wb, Option.getD_some, nmOk, heldR, List.all_cons, List.all_nil, List.any_cons, List.any_nil, isNm, Bool.and_true, Bool.true_and, Bool.false_and, Bool.and_false, Bool.not_false, Bool.not_true, Bool.or_false, decide_true, isNone_b]
  | n + 1, .none, _ => by
    unfold sameF
    apply run_eq
    unfold sameB
    simp (disch := first | omega | (simp only [List.length_map, List.length_append, List.length_cons, List.length_nil, List.length_set, List.length_range, sizeLine_eq]; done) | (simp only [List.length_map, List.length_append, List.length_cons, List.length_nil, List.length_set, List.length_range, sizeLine_eq]; omega)) only [↓wM_bd, ↓wM_pr, ↓wM_opt, ↓wM_C, ↓wM_var, ↓wM_look_fz, ↓wM_look_ow, ↓wM_look_nm, ↓wM_frz_fz, ↓wM_frz_ow, ↓wM_frz_nm, ↓wM_op2, ↓wM_op2T, ↓wO_gB, ↓wM_op1, ↓wM_nil, ↓wM_cons, ↓wM_frzA0, ↓wM_frzA, ↓wM_lookA0, ↓wM_lookA, ↓wM_tup, ↓wM_lst, ↓wM_B, ↓wM_isi, ↓wM_me, ↓wM_sl, ↓wM_noP, ↓wM_part, ↓wM_key, ↓wM_call, ↓wM_argSA0, ↓wM_argSA, ↓wM_argS_fz, ↓wM_argS_ow, ↓wM_argS_nm, ↓wM_mut, ↓wM_yes, ↓wM_rng1, ↓wM_rng2, ↓wM_wkV, ↓wM_wkT, ↓wM_wkL, ↓wM_wk2, ↓wM_wkB, ↓wM_wkC, ↓wM_not, ↓wM_tru, ↓wM_and, ↓wM_or, ↓wM_andV, ↓wM_orV, ↓wM_notV, ↓wM_ifE, ↓wM_chain, ↓wM_chainT, ↓wM_dispN, ↓wM_pairs0, ↓wM_pairs, ↓wM_new, ↓wO_gsC, ↓wS_seq, ↓wS_pass, ↓wS_brk, ↓wS_cnt, ↓wS_ret, ↓wS_drop, ↓wS_if, ↓wS_set, ↓wS_asg, ↓wS_par, ↓wS_put, ↓wS_augS, ↓wS_aug, ↓wM_run', wO_some, varK_fz, varK_ow, varK_lk, lookK_fz, lookK_ow, lookK_lk, frzK_fz, frzK_ow, frzK_lk, argK_fz, argK_owt, argK_owf, argK_lkt, argK_lkf, mutK_ow', mutO_ow, putK'_ow, getK_ow, fzO_fz, augK_fz, intD_int, retK_fz, retK_ow, retK_nm, retO_fz, retO_ow, retO_lk, setR_fz, setR_ow, setR_nm, setK_fz, setK_ow, setK_lk, tru_b, tru_n, tru_l, tru_t, key_i, key_s, gIAdd_ii, gISub_ii, gPow_18, gN_ok, gsN_ok, gT_ok, setQs_nil, setQs_fz, setQs_ow, outP_t, outP_f, outP_n, wkO_fz, wkO_ow, wkO_lk, wk_fz, wk_ow, wk_nm, items_l, items_t, unl_none, unl_some, unlK_lk, callK_R, callR_fz, callR_ow, rest_nil, rest_cons, restK_some, wipe_nil, wipe_cons, gAdd_ii, gSub_ii, gMul_l, gMul_r, gDiv_ii, gMod_ii, gNeg_i, gEq_ii, gEq_ss, gEq_bb, gNe_ii, gNe_ss, gLt_ii, gLe_ii, gGt_ii, gGe_ii, gIx_l0, gIx_t0, gIx_l1, gIx_t1, gIx_l2, gIx_t2, gIx_t3, gLen_l, gLen_t, gLen_d, gAbs_i, gAppend_l, gExtend_l, gInt_i, gTuple_l, gTuple_t, gList_l, gList_t, gMax_ii, gMin_ii, gSum_l, gIs_none, isLst, isT, isOw, List.getElem?_cons_zero, List.getElem?_cons_succ, List.length_cons, List.length_nil, List.cons_append, List.nil_append, List.replicate, List.set_cons_zero, List.set_cons_succ, true_and, and_true, if_true, List.map_cons, List.map_nil, Nat.reduceAdd, Nat.reduceSub, Nat.reduceLT, Nat.reduceLeDiff, List.length_set, List.length_map, List.length_append, List.length_range, reduceIte, reduceDIte, Bool.false_eq_true, slotOf, wb, Option.getD_some, nmOk, heldR, List.all_cons, List.all_nil, List.any_cons, List.any_nil, isNm, Bool.and_true, Bool.true_and, Bool.false_and, Bool.and_false, Bool.not_false, Bool.not_true, Bool.or_false, decide_true, isNone_n]
  | n + 1, .list _, h => h.elim
  | n + 1, .dict _, h => h.elim
  | n + 1, .tuple ds, ⟨hl, hd⟩ => by
    unfold sameF
    apply run_eq
    unfold sameB
    simp (disch := first | omega | (simp only [List.length_map, List.length_append, List.length_cons, List.length_nil, List.length_set, List.length_range, sizeLine_eq]; done) | (simp only [List.length_map, List.length_append, List.length_cons, List.length_nil, List.length_set, List.length_range, sizeLine_eq]; omega)) only [↓wM_bd, ↓wM_pr, ↓wM_opt, ↓wM_C, ↓wM_var, ↓wM_look_fz, ↓wM_look_ow, ↓wM_look_nm, ↓wM_frz_fz, ↓wM_frz_ow, ↓wM_frz_nm, ↓wM_op2, ↓wM_op2T, ↓wO_gB, ↓wM_op1, ↓wM_nil, ↓wM_cons, ↓wM_frzA0, ↓wM_frzA, ↓wM_lookA0, ↓wM_lookA, ↓wM_tup, ↓wM_lst, ↓wM_B, ↓wM_isi, ↓wM_me, ↓wM_sl, ↓wM_noP, ↓wM_part, ↓wM_key, ↓wM_call, ↓wM_argSA0, ↓wM_argSA, ↓wM_argS_fz, ↓wM_argS_ow, ↓wM_argS_nm, ↓wM_mut, ↓wM_yes, ↓wM_rng1, ↓wM_rng2, ↓wM_wkV, ↓wM_wkT, ↓wM_wkL, ↓wM_wk2, ↓wM_wkB, ↓wM_wkC, ↓wM_not, ↓wM_tru, ↓wM_and, ↓wM_or, ↓wM_andV, ↓wM_orV, ↓wM_notV, ↓wM_ifE, ↓wM_chain, ↓wM_chainT, ↓wM_dispN, ↓wM_pairs0, ↓wM_pairs, ↓wM_new, ↓wO_gsC, ↓wS_seq, ↓wS_pass, ↓wS_brk, ↓wS_cnt, ↓wS_ret, ↓wS_drop, ↓wS_if, ↓wS_set, ↓wS_asg, ↓wS_par, ↓wS_put, ↓wS_augS, ↓wS_aug, ↓wM_run', wO_some, varK_fz, varK_ow, varK_lk, lookK_fz, lookK_ow, lookK_lk, frzK_fz, frzK_ow, frzK_lk, argK_fz, argK_owt, argK_owf, argK_lkt, argK_lkf, mutK_ow', mutO_ow, putK'_ow, getK_ow, fzO_fz, augK_fz, intD_int, retK_fz, retK_ow, retK_nm, retO_fz, retO_ow, retO_lk, setR_fz, setR_ow, setR_nm, setK_fz, setK_ow, setK_lk, tru_b, tru_n, tru_l, tru_t, key_i, key_s, gIAdd_ii, gISub_ii, gPow_18, gN_ok, gsN_ok, gT_ok, setQs_nil, setQs_fz, setQs_ow, outP_t, outP_f, outP_n, wkO_fz, wkO_ow, wkO_lk, wk_fz, wk_ow, wk_nm, items_l, items_t, unl_none, unl_some, unlK_lk, callK_R, callR_fz, callR_ow, rest_nil, rest_cons, restK_some, wipe_nil, wipe_cons, gAdd_ii, gSub_ii, gMul_l, gMul_r, gDiv_ii, gMod_ii, gNeg_i, gEq_ii, gEq_ss, gEq_bb, gNe_ii, gNe_ss, gLt_ii, gLe_ii, gGt_ii, gGe_ii, gIx_l0, gIx_t0, gIx_l1, gIx_t1, gIx_l2, gIx_t2, gIx_t3, gLen_l, gLen_t, gLen_d, gAbs_i, gAppend_l, gExtend_l, gInt_i, gTuple_l, gTuple_t, gList_l, gList_t, gMax_ii, gMin_ii, gSum_l, gIs_none, isLst, isT, isOw, List.getElem?_cons_zero, List.getElem?_cons_succ, List.length_cons, List.length_nil, List.cons_append, List.nil_append, List.replicate, List.set_cons_zero, List.set_cons_succ, true_and, and_true, if_true, List.map_cons, List.map_nil, Nat.reduceAdd, Nat.reduceSub, Nat.reduceLT, Nat.reduceLeDiff, List.length_set, List.length_map, List.length_append, List.length_range, reduceIte, reduceDIte, Bool.false_eq_true, slotOf, wb, Option.getD_some, nmOk, heldR, List.all_cons, List.all_nil, List.any_cons, List.any_nil, isNm, Bool.and_true, Bool.true_and, Bool.false_and, Bool.and_false, Bool.not_false, Bool.not_true, Bool.or_false, decide_true, isNone_t]
    refine wM_lcM (by simp (disch := first | omega | (simp only [List.length_map, List.length_append, List.length_cons, List.length_nil, List.length_set, List.length_range, sizeLine_eq]; done) | (simp only [List.length_map, List.length_append, List.length_cons, List.length_nil, List.length_set, List.length_range, sizeLine_eq]; omega)) only [↓wM_bd, ↓wM_pr, ↓wM_opt, ↓wM_C, ↓wM_var, ↓wM_look_fz, ↓wM_look_ow, ↓wM_look_nm, ↓wM_frz_fz, ↓wM_frz_ow, ↓wM_frz_nm, ↓wM_op2, ↓wM_op2T, ↓wO_gB, ↓wM_op1, ↓wM_nil, ↓wM_cons, ↓wM_frzA0, ↓wM_frzA, ↓wM_lookA0, ↓wM_lookA, ↓wM_tup, ↓wM_lst, ↓wM_B, ↓wM_isi, ↓wM_me, ↓wM_sl, ↓wM_noP, ↓wM_part, ↓wM_key, ↓wM_call, ↓wM_argSA0, ↓wM_argSA, ↓wM_argS_fz, ↓wM_argS_ow, ↓wM_argS_nm, ↓wM_mut, ↓wM_yes, ↓wM_rng1, ↓wM_rng2, ↓wM_wkV, ↓wM_wkT, ↓wM_wkL, ↓wM_wk2, ↓wM_wkB, ↓wM_wkC, ↓wM_not, ↓wM_tru, ↓wM_and, ↓wM_or, ↓wM_andV, ↓wM_orV, ↓wM_notV, ↓wM_ifE, ↓wM_chain, ↓wM_chainT, ↓wM_dispN, ↓wM_pairs0, ↓wM_pairs, ↓wM_new, ↓wO_gsC, ↓wS_seq, ↓wS_pass, ↓wS_brk, ↓wS_cnt, ↓wS_ret, ↓wS_drop, ↓wS_if, ↓wS_set, ↓wS_asg, ↓wS_par, ↓wS_put, ↓wS_augS, ↓wS_aug, ↓wM_run', wO_some, varK_fz, varK_ow, varK_lk, lookK_fz, lookK_ow, lookK_lk, frzK_fz, frzK_ow, frzK_lk, argK_fz, argK_owt, argK_owf, argK_lkt, argK_lkf, mutK_ow', mutO_ow, putK'_ow, getK_ow, fzO_fz, augK_fz, intD_int, retK_fz, retK_ow, retK_nm, retO_fz, retO_ow, retO_lk, setR_fz, setR_ow, setR_nm, setK_fz, setK_ow, setK_lk, tru_b, tru_n, tru_l, tru_t, key_i, key_s, gIAdd_ii, gISub_ii, gPow_18, gN_ok, gsN_ok, gT_ok, setQs_nil, setQs_fz, setQs_ow, outP_t, outP_f, outP_n, wkO_fz, wkO_ow, wkO_lk, wk_fz, wk_ow, wk_nm, items_l, items_t, unl_none, unl_some, unlK_lk, callK_R, callR_fz, callR_ow, rest_nil, rest_cons, restK_some, wipe_nil, wipe_cons, gAdd_ii, gSub_ii, gMul_l, gMul_r, gDiv_ii, gMod_ii, gNeg_i, gEq_ii, gEq_ss, gEq_bb, gNe_ii, gNe_ss, gLt_ii, gLe_ii, gGt_ii, gGe_ii, gIx_l0, gIx_t0, gIx_l1, gIx_t1, gIx_l2, gIx_t2, gIx_t3, gLen_l, gLen_t, gLen_d, gAbs_i, gAppend_l, gExtend_l, gInt_i, gTuple_l, gTuple_t, gList_l, gList_t, gMax_ii, gMin_ii, gSum_l, gIs_none, isLst, isT, isOw, List.getElem?_cons_zero, List.getElem?_cons_succ, List.length_cons, List.length_nil, List.cons_append, List.nil_append, List.replicate, List.set_cons_zero, List.set_cons_succ, true_and, and_true, if_true, List.map_cons, List.map_nil, Nat.reduceAdd, Nat.reduceSub, Nat.reduceLT, Nat.reduceLeDiff, List.length_set, List.length_map, List.length_append, List.length_range, reduceIte, reduceDIte, Bool.false_eq_true, slotOf, wb, Option.getD_some, nmOk, heldR, List.all_cons, List.all_nil, List.any_cons, List.any_nil, isNm, Bool.and_true, Bool.true_and, Bool.false_and, Bool.and_false, Bool.not_false, Bool.not_true, Bool.or_false, rng1_ok, rng2_ok] <;> (first | exact ⟨rfl, rfl⟩ | exact rfl)) (fun _ => false) (fun _ => .none) (by rw [List.length_range]; simp only [Int.toNat_natCast, sizeLine_eq]; omega) (fun k hk => ?_) ?_
    · rw [List.mem_range, Int.toNat_natCast] at hk
      have e : gIx (.tuple ds) (.int (k : Int)) = some (.fz ds[k]) := gIx_t (by omega) (by rw [Int.toNat_natCast, List.getElem?_eq_getElem hk])
      simp (disch := first | omega | (simp only [List.length_map, List.length_append, List.length_cons, List.length_nil, List.length_set, List.length_range, sizeLine_eq]; done) | (simp only [List.length_map, List.length_append, List.length_cons, List.length_nil, List.length_set, List.length_range, sizeLine_eq]; omega)) only [↓wM_bd, ↓wM_pr, ↓wM_opt, ↓wM_C, ↓wM_var, ↓wM_look_fz, ↓wM_look_ow, ↓wM_look_nm, ↓wM_frz_fz, ↓wM_frz_ow, ↓wM_frz_nm, ↓wM_op2, ↓wM_op2T, ↓wO_gB, ↓wM_op1, ↓wM_nil, ↓wM_cons, ↓wM_frzA0, ↓wM_frzA, ↓wM_lookA0, ↓wM_lookA, ↓wM_tup, ↓wM_lst, ↓wM_B, ↓wM_isi, ↓wM_me, ↓wM_sl, ↓wM_noP, ↓wM_part, ↓wM_key, ↓wM_call, ↓wM_argSA0, ↓wM_argSA, ↓wM_argS_fz, ↓wM_argS_ow, ↓wM_argS_nm, ↓wM_mut, ↓wM_yes, ↓wM_rng1, ↓wM_rng2, ↓wM_wkV, ↓wM_wkT, ↓wM_wkL, ↓wM_wk2, ↓wM_wkB, ↓wM_wkC, ↓wM_not, ↓wM_tru, ↓wM_and, ↓wM_or, ↓wM_andV, ↓wM_orV, ↓wM_notV, ↓wM_ifE, ↓wM_chain, ↓wM_chainT, ↓wM_dispN, ↓wM_pairs0, ↓wM_pairs, ↓wM_new, ↓wO_gsC, ↓wS_seq, ↓wS_pass, ↓wS_brk, ↓wS_cnt, ↓wS_ret, ↓wS_drop, ↓wS_if, ↓wS_set, ↓wS_asg, ↓wS_par, ↓wS_put, ↓wS_augS, ↓wS_aug, ↓wM_run', wO_some, varK_fz, varK_ow, varK_lk, lookK_fz, lookK_ow, lookK_lk, frzK_fz, frzK_ow, frzK_lk, argK_fz, argK_owt, argK_owf, argK_lkt, argK_lkf, mutK_ow', mutO_ow, putK'_ow, getK_ow, fzO_fz, augK_fz, intD_int, retK_fz, retK_ow, retK_nm, retO_fz, retO_ow, retO_lk, setR_fz, setR_ow, setR_nm, setK_fz, setK_ow, setK_lk, tru_b, tru_n, tru_l, tru_t, key_i, key_s, gIAdd_ii, gISub_ii, gPow_18, gN_ok, gsN_ok, gT_ok, setQs_nil, setQs_fz, setQs_ow, outP_t, outP_f, outP_n, wkO_fz, wkO_ow, wkO_lk, wk_fz, wk_ow, wk_nm, items_l, items_t, unl_none, unl_some, unlK_lk, callK_R, callR_fz, callR_ow, rest_nil, rest_cons, restK_some, wipe_nil, wipe_cons, gAdd_ii, gSub_ii, gMul_l, gMul_r, gDiv_ii, gMod_ii, gNeg_i, gEq_ii, gEq_ss, gEq_bb, gNe_ii, gNe_ss, gLt_ii, gLe_ii, gGt_ii, gGe_ii, gIx_l0, gIx_t0, gIx_l1, gIx_t1, gIx_l2, gIx_t2, gIx_t3, gLen_l, gLen_t, gLen_d, gAbs_i, gAppend_l, gExtend_l, gInt_i, gTuple_l, gTuple_t, gList_l, gList_t, gMax_ii, gMin_ii, gSum_l, gIs_none, isLst, isT, isOw, List.getElem?_cons_zero, List.getElem?_cons_succ, List.length_cons, List.length_nil, List.cons_append, List.nil_append, List.replicate, List.set_cons_zero, List.set_cons_succ, true_and, and_true, if_true, List.map_cons, List.map_nil, Nat.reduceAdd, Nat.reduceSub, Nat.reduceLT, Nat.reduceLeDiff, List.length_set, List.length_map, List.length_append, List.length_range, reduceIte, reduceDIte, Bool.false_eq_true, slotOf, wb, Option.getD_some, nmOk, heldR, List.all_cons, List.all_nil, List.any_cons, List.any_nil, isNm, Bool.and_true, Bool.true_and, Bool.false_and, Bool.and_false, Bool.not_false, Bool.not_true, Bool.or_false, e, same_ok n ds[k] (hd _ (List.getElem_mem hk))]
    · simp (disch := first | omega | (simp only [List.length_map, List.length_append, List.length_cons, List.length_nil, List.length_set, List.length_range, sizeLine_eq]; done) | (simp only [List.length_map, List.length_append, List.length_cons, List.length_nil, List.length_set, List.length_range, sizeLine_eq]; omega)) only [↓wM_bd, ↓wM_pr, ↓wM_opt, ↓wM_C, ↓wM_var, ↓wM_look_fz, ↓wM_look_ow, ↓wM_look_nm, ↓wM_frz_fz, ↓wM_frz_ow, ↓wM_frz_nm, ↓wM_op2, ↓wM_op2T, ↓wO_gB, ↓wM_op1, ↓wM_nil, ↓wM_cons, ↓wM_frzA0, ↓wM_frzA, ↓wM_lookA0, ↓wM_lookA, ↓wM_tup, ↓wM_lst, ↓wM_B, ↓wM_isi, ↓wM_me, ↓wM_sl, ↓wM_noP, ↓wM_part, ↓wM_key, ↓wM_call, ↓wM_argSA0, ↓wM_argSA, ↓wM_argS_fz, ↓wM_argS_ow, ↓wM_argS_nm, ↓wM_mut, ↓wM_yes, ↓wM_rng1, ↓wM_rng2, ↓wM_wkV, ↓wM_wkT, ↓wM_wkL, ↓wM_wk2, ↓wM_wkB, ↓wM_wkC, ↓wM_not, ↓wM_tru, ↓wM_and, ↓wM_or, ↓wM_andV, ↓wM_orV, ↓wM_notV, ↓wM_ifE, ↓wM_chain, ↓wM_chainT, ↓wM_dispN, ↓wM_pairs0, ↓wM_pairs, ↓wM_new, ↓wO_gsC, ↓wS_seq, ↓wS_pass, ↓wS_brk, ↓wS_cnt, ↓wS_ret, ↓wS_drop, ↓wS_if, ↓wS_set, ↓wS_asg, ↓wS_par, ↓wS_put, ↓wS_augS, ↓wS_aug, ↓wM_run', wO_some, varK_fz, varK_ow, varK_lk, lookK_fz, lookK_ow, lookK_lk, frzK_fz, frzK_ow, frzK_lk, argK_fz, argK_owt, argK_owf, argK_lkt, argK_lkf, mutK_ow', mutO_ow, putK'_ow, getK_ow, fzO_fz, augK_fz, intD_int, retK_fz, retK_ow, retK_nm, retO_fz, retO_ow, retO_lk, setR_fz, setR_ow, setR_nm, setK_fz, setK_ow, setK_lk, tru_b, tru_n, tru_l, tru_t, key_i, key_s, gIAdd_ii, gISub_ii, gPow_18, gN_ok, gsN_ok, gT_ok, setQs_nil, setQs_fz, setQs_ow, outP_t, outP_f, outP_n, wkO_fz, wkO_ow, wkO_lk, wk_fz, wk_ow, wk_nm, items_l, items_t, unl_none, unl_some, unlK_lk, callK_R, callR_fz, callR_ow, rest_nil, rest_cons, restK_some, wipe_nil, wipe_cons, gAdd_ii, gSub_ii, gMul_l, gMul_r, gDiv_ii, gMod_ii, gNeg_i, gEq_ii, gEq_ss, gEq_bb, gNe_ii, gNe_ss, gLt_ii, gLe_ii, gGt_ii, gGe_ii, gIx_l0, gIx_t0, gIx_l1, gIx_t1, gIx_l2, gIx_t2, gIx_t3, gLen_l, gLen_t, gLen_d, gAbs_i, gAppend_l, gExtend_l, gInt_i, gTuple_l, gTuple_t, gList_l, gList_t, gMax_ii, gMin_ii, gSum_l, gIs_none, isLst, isT, isOw, List.getElem?_cons_zero, List.getElem?_cons_succ, List.length_cons, List.length_nil, List.cons_append, List.nil_append, List.replicate, List.set_cons_zero, List.set_cons_succ, true_and, and_true, if_true, List.map_cons, List.map_nil, Nat.reduceAdd, Nat.reduceSub, Nat.reduceLT, Nat.reduceLeDiff, List.length_set, List.length_map, List.length_append, List.length_range, reduceIte, reduceDIte, Bool.false_eq_true, slotOf, wb, Option.getD_some, nmOk, heldR, List.all_cons, List.all_nil, List.any_cons, List.any_nil, isNm, Bool.and_true, Bool.true_and, Bool.false_and, Bool.and_false, Bool.not_false, Bool.not_true, Bool.or_false, filter_no, gEq_nil]
def alikeB (self : M Rs) : DS :=
 (dSeq (dIf (dTru (dIsi .tuple (dVar 1)))
 ((dSeq (dIf (dOr (dNot (dTru (dIsi .tuple (dVar 0)))) (dOp2T gNe (dB gLen (dCons (dVar 0) dNil)) (dB gLen (dCons (dVar 1) dNil))))
 ((dRet (dC (.bool false))))
 (dPass))
 (dRet (dOp2 (gB gEq) (dLc [2] (dRng1 (dCons (dB gLen (dCons (dVar 1) dNil)) dNil)) (gN 2) (dNot (dTru (dCall [true, true] self (dCons (dOp2 gIx (dVar 0) (dVar 2)) (dCons (dOp2 gIx (dVar 1) (dVar 2)) dNil))))) (dVar 2)) (dLst dNil)))))
 (dPass))
 (dSeq (dIf (dOp2T gIs (dVar 1) (dC .none))
 ((dRet (dOp2 (gB gIs) (dVar 0) (dC .none))))
 (dPass))
 (dSeq (dIf (dTru (dIsi .bool (dVar 1)))
 ((dRet (dAndV (dIsi .bool (dVar 0)) (dOp2 (gB gEq) (dVar 0) (dVar 1)))))
 (dPass))
 (dSeq (dIf (dTru (dIsi .int (dVar 1)))
 ((dRet (dAndV (dIsi .int (dVar 0)) (dAndV (dNotV (dIsi .bool (dVar 0))) (dOp2 (gB gEq) (dVar 0) (dVar 1))))))
 (dPass))
 (dRet (dAndV (dIsi .str (dVar 0)) (dOp2 (gB gEq) (dVar 0) (dVar 1))))))))
def alikeF : Nat → M Rs
  | 0 => fun _ => .bad
  | d + 1 => runDef [true, true] 3 (alikeB (alikeF d))
theorem alike_ok : ∀ (n : Nat) (d : D), okV n d → alikeF n [.fz d, .fz d] = .ok (.fz (.bool true)) [.fz d, .fz d]
  | 0, _, h => h.elim
  | n + 1, .int i, _ => by
    unfold alikeF
    apply run_eq
    unfold alikeB
    simp (disch := first | omega | (simp only [List.length_map, List.length_append, List.length_cons, List.length_nil, List.length_set, List.length_range, sizeLine_eq]; done) | (simp only [List.length_map, List.length_append, List.length_cons, List.length_nil, List.length_set, List.length_range, sizeLine_eq]; omega)) only [↓wM_bd, ↓wM_pr, ↓wM_opt, ↓wM_C, ↓wM_var, ↓wM_look_fz, ↓wM_look_ow, ↓wM_look_nm, ↓wM_frz_fz, ↓wM_frz_ow, ↓wM_frz_nm, ↓wM_op2, ↓wM_op2T, ↓wO_gB, ↓wM_op1, ↓wM_nil, ↓wM_cons, ↓wM_frzA0, ↓wM_frzA, ↓wM_lookA0, ↓wM_lookA, ↓wM_tup, ↓wM_lst, ↓wM_B, ↓wM_isi, ↓wM_me, ↓wM_sl, ↓wM_noP, ↓wM_part, ↓wM_key, ↓wM_call, ↓wM_argSA0, ↓wM_argSA, ↓wM_argS_fz, ↓wM_argS_ow, ↓wM_argS_nm, ↓wM_mut, ↓wM_yes, ↓wM_rng1, ↓wM_rng2, ↓wM_wkV, ↓wM_wkT, ↓wM_wkL, ↓wM_wk2, ↓wM_wkB, ↓wM_wkC, ↓wM_not, ↓wM_tru, ↓wM_and, ↓wM_or, ↓wM_andV, ↓wM_orV, ↓wM_notV, ↓wM_ifE, ↓wM_chain, ↓wM_chainT, ↓wM_dispN, ↓wM_pairs0, ↓wM_pairs, ↓wM_new, ↓wO_gsC, ↓wS_seq, ↓wS_pass, ↓wS_brk, ↓wS_cnt, ↓wS_ret, ↓wS_drop, ↓wS_if, ↓wS_set, ↓wS_asg, ↓wS_par, ↓wS_put, ↓wS_augS, ↓wS_aug, ↓wM_run', wO_some, varK_fz, varK_ow, varK_lk, lookK_fz, lookK_ow, lookK_lk, frzK_fz, frzK_ow, frzK_lk, argK_fz, argK_owt, argK_owf, argK_lkt, argK_lkf, mutK_ow', mutO_ow, putK'_ow, getK_ow, fzO_fz, augK_fz, intD_int, retK_fz, retK_ow, retK_nm, retO_fz, retO_ow, retO_lk, setR_fz, setR_ow, setR_nm, setK_fz, setK_ow, setK_lk, tru_b, tru_n, tru_l, tru_t, key_i, key_s, gIAdd_ii, gISub_ii, gPow_18, gN_ok, gsN_ok, gT_ok, setQs_nil, setQs_fz, setQs_ow, outP_t, outP_f, outP_n, wkO_fz, wkO_ow, wkO_lk, wk_fz, wk_ow, wk_nm, items_l, items_t, unl_none, unl_some, unlK_lk, callK_R, callR_fz, callR_ow, rest_nil, rest_cons, restK_some, wipe_nil, wipe_cons, gAdd_ii, gSub_ii, gMul_l, gMul_r, gDiv_ii, gMod_ii, gNeg_i, gEq_ii, gEq_ss, gEq_bb, gNe_ii, gNe_ss, gLt_ii, gLe_ii, gGt_ii, gGe_ii, gIx_l0, gIx_t0, gIx_l1, gIx_t1, gIx_l2, gIx_t2, gIx_t3, gLen_l, gLen_t, gLen_d, gAbs_i, gAppend_l, gExtend_l, gInt_i, gTuple_l, gTuple_t, gList_l, gList_t, gMax_ii, gMin_ii, gSum_l, gIs_none, isLst, isT, isOw, List.getElem?_cons_zero, List.getElem?_cons_succ, List.length_cons, List.length_nil, List.cons_append, List.nil_append, List.replicate, List.set_cons_zero, List.set_cons_succ, true_and, and_true, if_true, List.map_cons, List.map_nil, Nat.reduceAdd, Nat.reduceSub, Nat.reduceLT, Nat.reduceLeDiff, List.length_set, List.length_map, List.length_append, List.length_range, reduceIte, reduceDIte, Bool.false_eq_true, slotOf, wb, Option.getD_some, nmOk, heldR, List.all_cons, List.all_nil, List.any_cons, List.any_nil, isNm, Bool.and_true, Bool.true_and, Bool.false_and, Bool.and_false, Bool.not_false, Bool.not_true, Bool.or_false, decide_true, isNone_i]
  | n + 1, .str i, _ => by
    unfold alikeF
    apply run_eq
    unfold alikeB
    simp (disch := first | omega | (simp only [List.length_map, List.length_append, List.length_cons, List.length_nil, List.length_set, List.length_range, sizeLine_eq]; done) | (simp only [List.length_map, List.length_append, List.length_cons, List.length_nil, List.length_set, List.length_range, sizeLine_eq]; omega)) only [↓wM_bd, ↓wM_pr, ↓wM_opt, ↓wM_C, ↓wM_var, ↓wM_look_fz, ↓wM_look_ow, ↓wM_look_nm, ↓wM_frz_fz, ↓wM_frz_ow, ↓wM_frz_nm, ↓wM_op2, ↓wM_op2T, ↓wO_gB, ↓wM_op1, ↓wM_nil, ↓wM_cons, ↓wM_frzA0, ↓wM_frzA, ↓wM_lookA0, ↓wM_lookA, ↓wM_tup, ↓wM_lst, ↓wM_B, ↓wM_isi, ↓wM_me, ↓wM_sl, ↓wM_noP, ↓wM_part, ↓wM_key, ↓wM_call, ↓wM_argSA0, ↓wM_argSA, ↓wM_argS_fz, ↓wM_argS_ow, ↓wM_argS_nm, ↓wM_mut, ↓wM_yes, ↓wM_rng1, ↓wM_rng2, ↓wM_wkV, ↓wM_wkT, ↓wM_wkL, ↓wM_wk2, ↓wM_wkB, ↓wM_wkC, ↓wM_not, ↓wM_tru, ↓wM_and, ↓wM_or, ↓wM_andV, ↓wM_orV, ↓wM_notV, ↓wM_ifE, ↓wM_chain, ↓wM_chainT, ↓wM_dispN, ↓wM_pairs0, ↓wM_pairs, ↓wM_new, ↓wO_gsC, ↓wS_seq, ↓wS_pass, ↓wS_brk, ↓wS_cnt, ↓wS_ret, ↓wS_drop, ↓wS_if, ↓wS_set, ↓wS_asg, ↓wS_par, ↓wS_put, ↓wS_augS, ↓wS_aug, ↓wM_run', wO_some, varK_fz, varK_ow, varK_lk, lookK_fz, lookK_ow, lookK_lk, frzK_fz, frzK_ow, frzK_lk, argK_fz, argK_owt, argK_owf, argK_lkt, argK_lkf, mutK_ow', mutO_ow, putK'_ow, getK_ow, fzO_fz, augK_fz, intD_int, retK_fz, retK_ow, retK_nm, retO_fz, retO_ow, retO_lk, setR_fz, setR_ow, setR_nm, setK_fz, setK_ow, setK_lk, tru_b, tru_n, tru_l, tru_t, key_i, key_s, gIAdd_ii, gISub_ii, gPow_18, gN_ok, gsN_ok, gT_ok, setQs_nil, setQs_fz, setQs_ow, outP_t, outP_f, outP_n, wkO_fz, wkO_ow, wkO_lk, wk_fz, wk_ow, wk_nm, items_l, items_t, unl_none, unl_some, unlK_lk, callK_R, callR_fz, callR_ow, rest_nil, rest_cons, restK_some, wipe_nil, wipe_cons, gAdd_ii, gSub_ii, gMul_l, gMul_r, gDiv_ii, gMod_ii, gNeg_i, gEq_ii, gEq_ss, gEq_bb, gNe_ii, gNe_ss, gLt_ii, gLe_ii, gGt_ii, gGe_ii, gIx_l0, gIx_t0, gIx_l1, gIx_t1, gIx_l2, gIx_t2, gIx_t3, gLen_l, gLen_t, gLen_d, gAbs_i, gAppend_l, gExtend_l, gInt_i, gTuple_l, gTuple_t, gList_l, gList_t, gMax_ii, gMin_ii, gSum_l, gIs_none, isLst, isT, isOw, List.getElem?_cons_zero, List.getElem?_cons_succ, List.length_cons, List.length_nil, List.cons_append, List.nil_append, List.replicate, List.set_cons_zero, List.set_cons_succ, true_and, and_true, if_true, List.map_cons, List.map_nil, Nat.reduceAdd, Nat.reduceSub, Nat.reduceLT, Nat.reduceLeDiff, List.length_set, List.length_map, List.length_append, List.length_range, reduceIte, reduceDIte, Bool.false_eq_true, slotOf, wb, Option.getD_some, nmOk, heldR, List.all_cons, List.all_nil, List.any_cons, List.any_nil, isNm, Bool.and_true, Bool.true_and, Bool.false_and, Bool.and_false, Bool.not_false, Bool.not_true, Bool.or_false, decide_true, isNone_s]
  | n + 1, .bool i, _ => by
    unfold alikeF
    apply run_eq
    unfold alikeB
    simp (disch := first | omega | (simp only [List.length_map, List.length_append, List.length_cons, List.length_nil, List.length_set, List.length_range, sizeLine_eq]; done) | (simp only [List.length_map, List.length_append, List.length_cons, List.length_nil, List.length_set, List.length_range, sizeLine_eq]; omega)) only [↓wM_bd, ↓wM_pr, ↓wM_opt, ↓wM_C, ↓wM_var, ↓wM_look_fz, ↓wM_look_ow, ↓wM_look_nm, ↓wM_frz_fz, ↓wM_frz_ow, ↓wM_frz_nm, ↓wM_op2, ↓wM_op2T, ↓wO_gB, ↓wM_op1, ↓wM_nil, ↓wM_cons, ↓wM_frzA0, ↓wM_frzA, ↓wM_lookA0, ↓wM_lookA, ↓wM_tup, ↓wM_lst, ↓wM_B, ↓wM_isi, ↓wM_me, ↓wM_sl, ↓wM_noP, ↓wM_part, ↓wM_key, ↓wM_call, ↓wM_argSA0, ↓wM_argSA, ↓wM_argS_fz, ↓wM_argS_ow, ↓wM_argS_nm, ↓wM_mut, ↓wM_yes, ↓wM_rng1, ↓wM_rng2, ↓wM_wkV, ↓wM_wkT, ↓wM_wkL, ↓wM_wk2, ↓wM_wkB, ↓wM_wkC, ↓wM_not, ↓wM_tru, ↓wM_and, ↓wM_or, ↓wM_andV, ↓wM_orV, ↓wM_notV, ↓wM_ifE, ↓wM_chain, ↓wM_chainT, ↓wM_dispN, ↓wM_pairs0, ↓wM_pairs, ↓wM_new, ↓wO_gsC, ↓wS_seq, ↓wS_pass, ↓wS_brk, ↓wS_cnt, ↓wS_ret, ↓wS_drop, ↓wS_if, ↓wS_set, ↓wS_asg, ↓wS_par, ↓wS_put, ↓wS_augS, ↓wS_aug, ↓wM_run', wO_some, varK_fz, varK_ow, varK_lk, lookK_fz, lookK_ow, lookK_lk, frzK_fz, frzK_ow, frzK_lk, argK_fz, argK_owt, argK_owf, argK_lkt, argK_lkf, mutK_ow', mutO_ow, putK'_ow, getK_ow, fzO_fz, augK_fz, intD_int, retK_fz, retK_ow, retK_nm, retO_fz, retO_ow, retO_lk, setR_fz, setR_ow, setR_nm, setK_fz, setK_ow, setK_lk, tru_b, tru_n, tru_l, tru_t, key_i, key_s, gIAdd_ii, gISub_ii, gPow_18, gN_ok, gsN_ok, gT_ok, setQs_nil, setQs_fz, setQs_ow, outP_t, outP_f, outP_n, wkO_fz, wkO_ow, wkO_lk, wk_fz, wk_ow, wk_nm, items_l, items_t, unl_none, unl_some, unlK_lk, callK_R, callR_fz, callR_ow, rest_nil, rest_cons, restK_some, wipe_nil, wipe_cons, gAdd_ii, gSub_ii, gMul_l, gMul_r, gDiv_ii, gMod_ii, gNeg_i, gEq_ii, gEq_ss, gEq_bb, gNe_ii, gNe_ss, gLt_ii, gLe_ii, gGt_ii, gGe_ii, gIx_l0, gIx_t0, gIx_l1, gIx_t1, gIx_l2, gIx_t2, gIx_t3, gLen_l, gLen_t, gLen_d, gAbs_i, gAppend_l, gExtend_l, gInt_i, gTuple_l, gTuple_t, gList_l, gList_t, gMax_ii, gMin_ii, gSum_l, gIs_none, isLst, isT, isOw, List.getElem?_cons_zero, List.getElem?_cons_succ, List.length_cons, List.length_nil, List.cons_append, List.nil_append, List.replicate, List.set_cons_zero, List.set_cons_succ, true_and, and_true, if_true, List.map_cons, List.map_nil, Nat.reduceAdd, Nat.reduceSub, Nat.reduceLT, Nat.reduceLeDiff, List.length_set, List.length_map, List.length_append, List.length_range, reduceIte, reduceDIte, Bool.false_eq_true, slotOf, wb, Option.getD_some, nmOk, heldR, List.all_cons, List.all_nil, List.any_cons, List.any_nil, isNm, Bool.and_true, Bool.true_and, Bool.false_and, Bool.and_false, Bool.not_false, Bool.not_true, Bool.or_false, decide_true, isNone_b]
  | n + 1, .none, _ => by
    unfold alikeF
    apply run_eq
    unfold alikeB
    simp (disch := first | omega | (simp only [List.length_map, List.length_append, List.length_cons, List.length_nil, List.length_set, List.length_range, sizeLine_eq]; done) | (simp only [List.length_map, List.length_append, List.length_cons, List.length_nil, List.length_set, List.length_range, sizeLine_eq]; omega)) only [↓wM_bd, ↓wM_pr, ↓wM_opt, ↓wM_C, ↓wM_var, ↓wM_look_fz, ↓wM_look_ow, ↓wM_look_nm, ↓wM_frz_fz, ↓wM_frz_ow, ↓wM_frz_nm, ↓wM_op2, ↓wM_op2T, ↓wO_gB, ↓wM_op1, ↓wM_nil, ↓wM_cons, ↓wM_frzA0, ↓wM_frzA, ↓wM_lookA0, ↓wM_lookA, ↓wM_tup, ↓wM_lst, ↓wM_B, ↓wM_isi, ↓wM_me, ↓wM_sl, ↓wM_noP, ↓wM_part, ↓wM_key, ↓wM_call, ↓wM_argSA0, ↓wM_argSA, ↓wM_argS_fz, ↓wM_argS_ow, ↓wM_argS_nm, ↓wM_mut, ↓wM_yes, ↓wM_rng1, ↓wM_rng2, ↓wM_wkV, ↓wM_wkT, ↓wM_wkL, ↓wM_wk2, ↓wM_wkB, ↓wM_wkC, ↓wM_not, ↓wM_tru, ↓wM_and, ↓wM_or, ↓wM_andV, ↓wM_orV, ↓wM_notV, ↓wM_ifE, ↓wM_chain, ↓wM_chainT, ↓wM_dispN, ↓wM_pairs0, ↓wM_pairs, ↓wM_new, ↓wO_gsC, ↓wS_seq, ↓wS_pass, ↓wS_brk, ↓wS_cnt, ↓wS_ret, ↓wS_drop, ↓wS_if, ↓wS_set, ↓wS_asg, ↓wS_par, ↓wS_put, ↓wS_augS, ↓wS_aug, ↓wM_run', wO_some, varK_fz, varK_ow, varK_lk, lookK_fz, lookK_ow, lookK_lk, frzK_fz, frzK_ow, frzK_lk, argK_fz, argK_owt, argK_owf, argK_lkt, argK_lkf, mutK_ow', mutO_ow, putK'_ow, getK_ow, fzO_fz, augK_fz, intD_int, retK_fz, retK_ow, retK_nm, retO_fz, retO_ow, retO_lk, setR_fz, setR_ow, setR_nm, setK_fz, setK_ow, setK_lk, tru_b, tru_n, tru_l, tru_t, key_i, key_s, gIAdd_ii, gISub_ii, gPow_18, gN_ok, gsN_ok, gT_ok, setQs_nil, setQs_fz, setQs_ow, outP_t, outP_f, outP_n, wkO_fz, wkO_ow, wkO_lk, wk_fz, wk_ow, wk_nm, items_l, items_t, unl_none, unl_some, unlK_lk, callK_R, callR_fz, callR_ow, rest_nil, rest_cons, restK_some, wipe_nil, wipe_cons, gAdd_ii, gSub_ii, gMul_l, gMul_r, gDiv_ii, gMod_ii, gNeg_i, gEq_ii, gEq_ss, gEq_bb, gNe_ii, gNe_ss, gLt_ii, gLe_ii, gGt_ii, gGe_ii, gIx_l0, gIx_t0, gIx_l1, gIx_t1, gIx_l2, gIx_t2, gIx_t3, gLen_l, gLen_t, gLen_d, gAbs_i, gAppend_l, gExtend_l, gInt_i, gTuple_l, gTuple_t, gList_l, gList_t, gMax_ii, gMin_ii, gSum_l, gIs_none, isLst, isT, isOw, List.getElem?_cons_zero, List.getElem?_cons_succ, List.length_cons, List.length_nil, List.cons_append, List.nil_append, List.replicate, List.set_cons_zero, List.set_cons_succ, true_and, and_true, if_true, List.map_cons, List.map_nil, Nat.reduceAdd, Nat.reduceSub, Nat.reduceLT, Nat.reduceLeDiff, List.length_set, List.length_map, List.length_append, List.length_range, reduceIte, reduceDIte, Bool.false_eq_true, slotOf, wb, Option.getD_some, nmOk, heldR, List.all_cons, List.all_nil, List.any_cons, List.any_nil, isNm, Bool.and_true, Bool.true_and, Bool.false_and, Bool.and_false, Bool.not_false, Bool.not_true, Bool.or_false, decide_true, isNone_n]
  | n + 1, .list _, h => h.elim
  | n + 1, .dict _, h => h.elim
  | n + 1, .tuple ds, ⟨hl, hd⟩ => by
    unfold alikeF
    apply run_eq
    unfold alikeB
    simp (disch := first | omega | (simp only [List.length_map, List.length_append, List.length_cons, List.length_nil, List.length_set, List.length_range, sizeLine_eq]; done) | (simp only [List.length_map, List.length_append, List.length_cons, List.length_nil, List.length_set, List.length_range, sizeLine_eq]; omega)) only [↓wM_bd, ↓wM_pr, ↓wM_opt, ↓wM_C, ↓wM_var, ↓wM_look_fz, ↓wM_look_ow, ↓wM_look_nm, ↓wM_frz_fz, ↓wM_frz_ow, ↓wM_frz_nm, ↓wM_op2, ↓wM_op2T, ↓wO_gB, ↓wM_op1, ↓wM_nil, ↓wM_cons, ↓wM_frzA0, ↓wM_frzA, ↓wM_lookA0, ↓wM_lookA, ↓wM_tup, ↓wM_lst, ↓wM_B, ↓wM_isi, ↓wM_me, ↓wM_sl, ↓wM_noP, ↓wM_part, ↓wM_key, ↓wM_call, ↓wM_argSA0, ↓wM_argSA, ↓wM_argS_fz, ↓wM_argS_ow, ↓wM_argS_nm, ↓wM_mut, ↓wM_yes, ↓wM_rng1, ↓wM_rng2, ↓wM_wkV, ↓wM_wkT, ↓wM_wkL, ↓wM_wk2, ↓wM_wkB, ↓wM_wkC, ↓wM_not, ↓wM_tru, ↓wM_and, ↓wM_or, ↓wM_andV, ↓wM_orV, ↓wM_notV, ↓wM_ifE, ↓wM_chain, ↓wM_chainT, ↓wM_dispN, ↓wM_pairs0, ↓wM_pairs, ↓wM_new, ↓wO_gsC, ↓wS_seq, ↓wS_pass, ↓wS_brk, ↓wS_cnt, ↓wS_ret, ↓wS_drop, ↓wS_if, ↓wS_set, ↓wS_asg, ↓wS_par, ↓wS_put, ↓wS_augS, ↓wS_aug, ↓wM_run', wO_some, varK_fz, varK_ow, varK_lk, lookK_fz, lookK_ow, lookK_lk, frzK_fz, frzK_ow, frzK_lk, argK_fz, argK_owt, argK_owf, argK_lkt, argK_lkf, mutK_ow', mutO_ow, putK'_ow, getK_ow, fzO_fz, augK_fz, intD_int, retK_fz, retK_ow, retK_nm, retO_fz, retO_ow, retO_lk, setR_fz, setR_ow, setR_nm, setK_fz, setK_ow, setK_lk, tru_b, tru_n, tru_l, tru_t, key_i, key_s, gIAdd_ii, gISub_ii, gPow_18, gN_ok, gsN_ok, gT_ok, setQs_nil, setQs_fz, setQs_ow, outP_t, outP_f, outP_n, wkO_fz, wkO_ow, wkO_lk, wk_fz, wk_ow, wk_nm, items_l, items_t, unl_none, unl_some, unlK_lk, callK_R, callR_fz, callR_ow, rest_nil, rest_cons, restK_some, wipe_nil, wipe_cons, gAdd_ii, gSub_ii, gMul_l, gMul_r, gDiv_ii, gMod_ii, gNeg_i, gEq_ii, gEq_ss, gEq_bb, gNe_ii, gNe_ss, gLt_ii, gLe_ii, gGt_ii, gGe_ii, gIx_l0, gIx_t0, gIx_l1, gIx_t1, gIx_l2, gIx_t2, gIx_t3, gLen_l, gLen_t, gLen_d, gAbs_i, gAppend_l, gExtend_l, gInt_i, gTuple_l, gTuple_t, gList_l, gList_t, gMax_ii, gMin_ii, gSum_l, gIs_none, isLst, isT, isOw, List.getElem?_cons_zero, List.getElem?_cons_succ, List.length_cons, List.length_nil, List.cons_append, List.nil_append, List.replicate, List.set_cons_zero, List.set_cons_succ, true_and, and_true, if_true, List.map_cons, List.map_nil, Nat.reduceAdd, Nat.reduceSub, Nat.reduceLT, Nat.reduceLeDiff, List.length_set, List.length_map, List.length_append, List.length_range, reduceIte, reduceDIte, Bool.false_eq_true, slotOf, wb, Option.getD_some, nmOk, heldR, List.all_cons, List.all_nil, List.any_cons, List.any_nil, isNm, Bool.and_true, Bool.true_and, Bool.false_and, Bool.and_false, Bool.not_false, Bool.not_true, Bool.or_false, decide_true, isNone_t]
    refine wM_lcM (by simp (disch := first | omega | (simp only [List.length_map, List.length_append, List.length_cons, List.length_nil, List.length_set, List.length_range, sizeLine_eq]; done) | (simp only [List.length_map, List.length_append, List.length_cons, List.length_nil, List.length_set, List.length_range, sizeLine_eq]; omega)) only [↓wM_bd, ↓wM_pr, ↓wM_opt, ↓wM_C, ↓wM_var, ↓wM_look_fz, ↓wM_look_ow, ↓wM_look_nm, ↓wM_frz_fz, ↓wM_frz_ow, ↓wM_frz_nm, ↓wM_op2, ↓wM_op2T, ↓wO_gB, ↓wM_op1, ↓wM_nil, ↓wM_cons, ↓wM_frzA0, ↓wM_frzA, ↓wM_lookA0, ↓wM_lookA, ↓wM_tup, ↓wM_lst, ↓wM_B, ↓wM_isi, ↓wM_me, ↓wM_sl, ↓wM_noP, ↓wM_part, ↓wM_key, ↓wM_call, ↓wM_argSA0, ↓wM_argSA, ↓wM_argS_fz, ↓wM_argS_ow, ↓wM_argS_nm, ↓wM_mut, ↓wM_yes, ↓wM_rng1, ↓wM_rng2, ↓wM_wkV, ↓wM_wkT, ↓wM_wkL, ↓wM_wk2, ↓wM_wkB, ↓wM_wkC, ↓wM_not, ↓wM_tru, ↓wM_and, ↓wM_or, ↓wM_andV, ↓wM_orV, ↓wM_notV, ↓wM_ifE, ↓wM_chain, ↓wM_chainT, ↓wM_dispN, ↓wM_pairs0, ↓wM_pairs, ↓wM_new, ↓wO_gsC, ↓wS_seq, ↓wS_pass, ↓wS_brk, ↓wS_cnt, ↓wS_ret, ↓wS_drop, ↓wS_if, ↓wS_set, ↓wS_asg, ↓wS_par, ↓wS_put, ↓wS_augS, ↓wS_aug, ↓wM_run', wO_some, varK_fz, varK_ow, varK_lk, lookK_fz, lookK_ow, lookK_lk, frzK_fz, frzK_ow, frzK_lk, argK_fz, argK_owt, argK_owf, argK_lkt, argK_lkf, mutK_ow', mutO_ow, putK'_ow, getK_ow, fzO_fz, augK_fz, intD_int, retK_fz, retK_ow, retK_nm, retO_fz, retO_ow, retO_lk, setR_fz, setR_ow, setR_nm, setK_fz, setK_ow, setK_lk, tru_b, tru_n, tru_l, tru_t, key_i, key_s, gIAdd_ii, gISub_ii, gPow_18, gN_ok, gsN_ok, gT_ok, setQs_nil, setQs_fz, setQs_ow, outP_t, outP_f, outP_n, wkO_fz, wkO_ow, wkO_lk, wk_fz, wk_ow, wk_nm, items_l, items_t, unl_none, unl_some, unlK_lk, callK_R, callR_fz, callR_ow, rest_nil, rest_cons, restK_some, wipe_nil, wipe_cons, gAdd_ii, gSub_ii, gMul_l, gMul_r, gDiv_ii, gMod_ii, gNeg_i, gEq_ii, gEq_ss, gEq_bb, gNe_ii, gNe_ss, gLt_ii, gLe_ii, gGt_ii, gGe_ii, gIx_l0, gIx_t0, gIx_l1, gIx_t1, gIx_l2, gIx_t2, gIx_t3, gLen_l, gLen_t, gLen_d, gAbs_i, gAppend_l, gExtend_l, gInt_i, gTuple_l, gTuple_t, gList_l, gList_t, gMax_ii, gMin_ii, gSum_l, gIs_none, isLst, isT, isOw, List.getElem?_cons_zero, List.getElem?_cons_succ, List.length_cons, List.length_nil, List.cons_append, List.nil_append, List.replicate, List.set_cons_zero, List.set_cons_succ, true_and, and_true, if_true, List.map_cons, List.map_nil, Nat.reduceAdd, Nat.reduceSub, Nat.reduceLT, Nat.reduceLeDiff, List.length_set, List.length_map, List.length_append, List.length_range, reduceIte, reduceDIte, Bool.false_eq_true, slotOf, wb, Option.getD_some, nmOk, heldR, List.all_cons, List.all_nil, List.any_cons, List.any_nil, isNm, Bool.and_true, Bool.true_and, Bool.false_and, Bool.and_false, Bool.not_false, Bool.not_true, Bool.or_false, rng1_ok, rng2_ok] <;> (first | exact ⟨rfl, rfl⟩ | exact rfl)) (fun _ => false) (fun _ => .none) (by rw [List.length_range]; simp only [Int.toNat_natCast, sizeLine_eq]; omega) (fun k hk => ?_) ?_
    · rw [List.mem_range, Int.toNat_natCast] at hk
      have e : gIx (.tuple ds) (.int (k : Int)) = some (.fz ds[k]) := gIx_t (by omega) (by rw [Int.toNat_natCast, List.getElem?_eq_getElem hk])
      simp (disch := first | omega | (simp only [List.length_map, List.length_append, List.length_cons, List.length_nil, List.length_set, List.length_range, sizeLine_eq]; done) | (simp only [List.length_map, List.length_append, List.length_cons, List.length_nil, List.length_set, List.length_range, sizeLine_eq]; omega)) only [↓wM_bd, ↓wM_pr, ↓wM_opt, ↓wM_C, ↓wM_var, ↓wM_look_fz, ↓wM_look_ow, ↓wM_look_nm, ↓wM_frz_fz, ↓wM_frz_ow, ↓wM_frz_nm, ↓wM_op2, ↓wM_op2T, ↓wO_gB, ↓wM_op1, ↓wM_nil, ↓wM_cons, ↓wM_frzA0, ↓wM_frzA, ↓wM_lookA0, ↓wM_lookA, ↓wM_tup, ↓wM_lst, ↓wM_B, ↓wM_isi, ↓wM_me, ↓wM_sl, ↓wM_noP, ↓wM_part, ↓wM_key, ↓wM_call, ↓wM_argSA0, ↓wM_argSA, ↓wM_argS_fz, ↓wM_argS_ow, ↓wM_argS_nm, ↓wM_mut, ↓wM_yes, ↓wM_rng1, ↓wM_rng2, ↓wM_wkV, ↓wM_wkT, ↓wM_wkL, ↓wM_wk2, ↓wM_wkB, ↓wM_wkC, ↓wM_not, ↓wM_tru, ↓wM_and, ↓wM_or, ↓wM_andV, ↓wM_orV, ↓wM_notV, ↓wM_ifE, ↓wM_chain, ↓wM_chainT, ↓wM_dispN, ↓wM_pairs0, ↓wM_pairs, ↓wM_new, ↓wO_gsC, ↓wS_seq, ↓wS_pass, ↓wS_brk, ↓wS_cnt, ↓wS_ret, ↓wS_drop, ↓wS_if, ↓wS_set, ↓wS_asg, ↓wS_par, ↓wS_put, ↓wS_augS, ↓wS_aug, ↓wM_run', wO_some, varK_fz, varK_ow, varK_lk, lookK_fz, lookK_ow, lookK_lk, frzK_fz, frzK_ow, frzK_lk, argK_fz, argK_owt, argK_owf, argK_lkt, argK_lkf, mutK_ow', mutO_ow, putK'_ow, getK_ow, fzO_fz, augK_fz, intD_int, retK_fz, retK_ow, retK_nm, retO_fz, retO_ow, retO_lk, setR_fz, setR_ow, setR_nm, setK_fz, setK_ow, setK_lk, tru_b, tru_n, tru_l, tru_t, key_i, key_s, gIAdd_ii, gISub_ii, gPow_18, gN_ok, gsN_ok, gT_ok, setQs_nil, setQs_fz, setQs_ow, outP_t, outP_f, outP_n, wkO_fz, wkO_ow, wkO_lk, wk_fz, wk_ow, wk_nm, items_l, items_t, unl_none, unl_some, unlK_lk, callK_R, callR_fz, callR_ow, rest_nil, rest_cons, restK_some, wipe_nil, wipe_cons, gAdd_ii, gSub_ii, gMul_l, gMul_r, gDiv_ii, gMod_ii, gNeg_i, gEq_ii, gEq_ss, gEq_bb, gNe_ii, gNe_ss, gLt_ii, gLe_ii, gGt_ii, gGe_ii, gIx_l0, gIx_t0, gIx_l1, gIx_t1, gIx_l2, gIx_t2, gIx_t3, gLen_l, gLen_t, gLen_d, gAbs_i, gAppend_l, gExtend_l, gInt_i, gTuple_l, gTuple_t, gList_l, gList_t, gMax_ii, gMin_ii, gSum_l, gIs_none, isLst, isT, isOw, List.getElem?_cons_zero, List.getElem?_cons_succ, List.length_cons, List.length_nil, List.cons_append, List.nil_append, List.replicate, List.set_cons_zero, List.set_cons_succ, true_and, and_true, if_true, List.map_cons, List.map_nil, Nat.reduceAdd, Nat.reduceSub, Nat.reduceLT, Nat.reduceLeDiff, List.length_set, List.length_map, List.length_append, List.length_range, reduceIte, reduceDIte, Bool.false_eq_true, slotOf, wb, Option.getD_some, nmOk, heldR, List.all_cons, List.all_nil, List.any_cons, List.any_nil, isNm, Bool.and_true, Bool.true_and, Bool.false_and, Bool.and_false, Bool.not_false, Bool.not_true, Bool.or_false, e, alike_ok n ds[k] (hd _ (List.getElem_mem hk))]
    · simp (disch := first | omega | (simp only [List.length_map, List.length_append, List.length_cons, List.length_nil, List.length_set, List.length_range, sizeLine_eq]; done) | (simp only [List.length_map, List.length_append, List.length_cons, List.length_nil, List.length_set, List.length_range, sizeLine_eq]; omega)) only [↓wM_bd, ↓wM_pr, ↓wM_opt, ↓wM_C, ↓wM_var, ↓wM_look_fz, ↓wM_look_ow, ↓wM_look_nm, ↓wM_frz_fz, ↓wM_frz_ow, ↓wM_frz_nm, ↓wM_op2, ↓wM_op2T, ↓wO_gB, ↓wM_op1, ↓wM_nil, ↓wM_cons, ↓wM_frzA0, ↓wM_frzA, ↓wM_lookA0, ↓wM_lookA, ↓wM_tup, ↓wM_lst, ↓wM_B, ↓wM_isi, ↓wM_me, ↓wM_sl, ↓wM_noP, ↓wM_part, ↓wM_key, ↓wM_call, ↓wM_argSA0, ↓wM_argSA, ↓wM_argS_fz, ↓wM_argS_ow, ↓wM_argS_nm, ↓wM_mut, ↓wM_yes, ↓wM_rng1, ↓wM_rng2, ↓wM_wkV, ↓wM_wkT, ↓wM_wkL, ↓wM_wk2, ↓wM_wkB, ↓wM_wkC, ↓wM_not, ↓wM_tru, ↓wM_and, ↓wM_or, ↓wM_andV, ↓wM_orV, ↓wM_notV, ↓wM_ifE, ↓wM_chain, ↓wM_chainT, ↓wM_dispN, ↓wM_pairs0, ↓wM_pairs, ↓wM_new, ↓wO_gsC, ↓wS_seq, ↓wS_pass, ↓wS_brk, ↓wS_cnt, ↓wS_ret, ↓wS_drop, ↓wS_if, ↓wS_set, ↓wS_asg, ↓wS_par, ↓wS_put, ↓wS_augS, ↓wS_aug, ↓wM_run', wO_some, varK_fz, varK_ow, varK_lk, lookK_fz, lookK_ow, lookK_lk, frzK_fz, frzK_ow, frzK_lk, argK_fz, argK_owt, argK_owf, argK_lkt, argK_lkf, mutK_ow', mutO_ow, putK'_ow, getK_ow, fzO_fz, augK_fz, intD_int, retK_fz, retK_ow, retK_nm, retO_fz, retO_ow, retO_lk, setR_fz, setR_ow, setR_nm, setK_fz, setK_ow, setK_lk, tru_b, tru_n, tru_l, tru_t, key_i, key_s, gIAdd_ii, gISub_ii, gPow_18, gN_ok, gsN_ok, gT_ok, setQs_nil, setQs_fz, setQs_ow, outP_t, outP_f, outP_n, wkO_fz, wkO_ow, wkO_lk, wk_fz, wk_ow, wk_nm, items_l, items_t, unl_none, unl_some, unlK_lk, callK_R, callR_fz, callR_ow, rest_nil, rest_cons, restK_some, wipe_nil, wipe_cons, gAdd_ii, gSub_ii, gMul_l, gMul_r, gDiv_ii, gMod_ii, gNeg_i, gEq_ii, gEq_ss, gEq_bb, gNe_ii, gNe_ss, gLt_ii, gLe_ii, gGt_ii, gGe_ii, gIx_l0, gIx_t0, gIx_l1, gIx_t1, gIx_l2, gIx_t2, gIx_t3, gLen_l, gLen_t, gLen_d, gAbs_i, gAppend_l, gExtend_l, gInt_i, gTuple_l, gTuple_t, gList_l, gList_t, gMax_ii, gMin_ii, gSum_l, gIs_none, isLst, isT, isOw, List.getElem?_cons_zero, List.getElem?_cons_succ, List.length_cons, List.length_nil, List.cons_append, List.nil_append, List.replicate, List.set_cons_zero, List.set_cons_succ, true_and, and_true, if_true, List.map_cons, List.map_nil, Nat.reduceAdd, Nat.reduceSub, Nat.reduceLT, Nat.reduceLeDiff, List.length_set, List.length_map, List.length_append, List.length_range, reduceIte, reduceDIte, Bool.false_eq_true, slotOf, wb, Option.getD_some, nmOk, heldR, List.all_cons, List.all_nil, List.any_cons, List.any_nil, isNm, Bool.and_true, Bool.true_and, Bool.false_and, Bool.and_false, Bool.not_false, Bool.not_true, Bool.or_false, filter_no, gEq_nil]
/-- pick: one of the rows -/
theorem pick_ok (ds : List Int) (i : Nat) (rows : List D) (h : rows ≠ []) (rw' : D) (hr : rw' = .list rows ∨ rw' = .tuple rows) : ∃ d ∈ rows, pickF [W ds i, .fz rw'] = .ok (.fz d) [W ds (i + 1 : Nat), .fz rw'] := by
  have hl : 0 < rows.length := List.length_pos_iff.mpr h
  have h1 := nx_nonneg (ds := ds) (i := i) (m := rows.length) (by omega)
  have h2 := nx_lt (ds := ds) (i := i) (m := rows.length) (by omega)
  have hk : (nx ds i rows.length).toNat < rows.length := by omega
  refine ⟨rows[(nx ds i rows.length).toNat], List.getElem_mem _, ?_⟩
  have e1 : gIx (.list rows) (.int (nx ds i rows.length)) = some (.fz rows[(nx ds i rows.length).toNat]) := gIx_l h1 (List.getElem?_eq_getElem hk)
  have e2 : gIx (.tuple rows) (.int (nx ds i rows.length)) = some (.fz rows[(nx ds i rows.length).toNat]) := gIx_t h1 (List.getElem?_eq_getElem hk)
  have hn := next_ok ds i rows.length (by omega)
  unfold W at hn ⊢
  apply run_eq
  unfold pickB
  rcases hr with e | e <;> subst e
  · simp (disch := first | omega | (simp only [List.length_map, List.length_append, List.length_cons, List.length_nil, List.length_set, List.length_range, sizeLine_eq]; done) | (simp only [List.length_map, List.length_append, List.length_cons, List.length_nil, List.length_set, List.length_range, sizeLine_eq]; omega)) only [↓wM_bd, ↓wM_pr, ↓wM_opt, ↓wM_C, ↓wM_var, ↓wM_look_fz, ↓wM_look_ow, ↓wM_look_nm, ↓wM_frz_fz, ↓wM_frz_ow, ↓wM_frz_nm, ↓wM_op2, ↓wM_op2T, ↓wO_gB, ↓wM_op1, ↓wM_nil, ↓wM_cons, ↓wM_frzA0, ↓wM_frzA, ↓wM_lookA0, ↓wM_lookA, ↓wM_tup, ↓wM_lst, ↓wM_B, ↓wM_isi, ↓wM_me, ↓wM_sl, ↓wM_noP, ↓wM_part, ↓wM_key, ↓wM_call, ↓wM_argSA0, ↓wM_argSA, ↓wM_argS_fz, ↓wM_argS_ow, ↓wM_argS_nm, ↓wM_mut, ↓wM_yes, ↓wM_rng1, ↓wM_rng2, ↓wM_wkV, ↓wM_wkT, ↓wM_wkL, ↓wM_wk2, ↓wM_wkB, ↓wM_wkC, ↓wM_not, ↓wM_tru, ↓wM_and, ↓wM_or, ↓wM_andV, ↓wM_orV, ↓wM_notV, ↓wM_ifE, ↓wM_chain, ↓wM_chainT, ↓wM_dispN, ↓wM_pairs0, ↓wM_pairs, ↓wM_new, ↓wO_gsC, ↓wS_seq, ↓wS_pass, ↓wS_brk, ↓wS_cnt, ↓wS_ret, ↓wS_drop, ↓wS_if, ↓wS_set, ↓wS_asg, ↓wS_par, ↓wS_put, ↓wS_augS, ↓wS_aug, ↓wM_run', wO_some, varK_fz, varK_ow, varK_lk, lookK_fz, lookK_ow, lookK_lk, frzK_fz, frzK_ow, frzK_lk, argK_fz, argK_owt, argK_owf, argK_lkt, argK_lkf, mutK_ow', mutO_ow, putK'_ow, getK_ow, fzO_fz, augK_fz, intD_int, retK_fz, retK_ow, retK_nm, retO_fz, retO_ow, retO_lk, setR_fz, setR_ow, setR_nm, setK_fz, setK_ow, setK_lk, tru_b, tru_n, tru_l, tru_t, key_i, key_s, gIAdd_ii, gISub_ii, gPow_18, gN_ok, gsN_ok, gT_ok, setQs_nil, setQs_fz, setQs_ow, outP_t, outP_f, outP_n, wkO_fz, wkO_ow, wkO_lk, wk_fz, wk_ow, wk_nm, items_l, items_t, unl_none, unl_some, unlK_lk, callK_R, callR_fz, callR_ow, rest_nil, rest_cons, restK_some, wipe_nil, wipe_cons, gAdd_ii, gSub_ii, gMul_l, gMul_r, gDiv_ii, gMod_ii, gNeg_i, gEq_ii, gEq_ss, gEq_bb, gNe_ii, gNe_ss, gLt_ii, gLe_ii, gGt_ii, gGe_ii, gIx_l0, gIx_t0, gIx_l1, gIx_t1, gIx_l2, gIx_t2, gIx_t3, gLen_l, gLen_t, gLen_d, gAbs_i, gAppend_l, gExtend_l, gInt_i, gTuple_l, gTuple_t, gList_l, gList_t, gMax_ii, gMin_ii, gSum_l, gIs_none, isLst, isT, isOw, List.getElem?_cons_zero, List.getElem?_cons_succ, List.length_cons, List.length_nil, List.cons_append, List.nil_append, List.replicate, List.set_cons_zero, List.set_cons_succ, true_and, and_true, if_true, List.map_cons, List.map_nil, Nat.reduceAdd, Nat.reduceSub, Nat.reduceLT, Nat.reduceLeDiff, List.length_set, List.length_map, List.length_append, List.length_range, reduceIte, reduceDIte, Bool.false_eq_true, slotOf, wb, Option.getD_some, nmOk, heldR, List.all_cons, List.all_nil, List.any_cons, List.any_nil, isNm, Bool.and_true, Bool.true_and, Bool.false_and, Bool.and_false, Bool.not_false, Bool.not_true, Bool.or_false, e1, hn]
  · simp (disch := first | omega | (simp only [List.length_map, List.length_append, List.length_cons, List.length_nil, List.length_set, List.length_range, sizeLine_eq]; done) | (simp only [List.length_map, List.length_append, List.length_cons, List.length_nil, List.length_set, List.length_range, sizeLine_eq]; omega)) only [↓wM_bd, ↓wM_pr, ↓wM_opt, ↓wM_C, ↓wM_var, ↓wM_look_fz, ↓wM_look_ow, ↓wM_look_nm, ↓wM_frz_fz, ↓wM_frz_ow, ↓wM_frz_nm, ↓wM_op2, ↓wM_op2T, ↓wO_gB, ↓wM_op1, ↓wM_nil, ↓wM_cons, ↓wM_frzA0, ↓wM_frzA, ↓wM_lookA0, ↓wM_lookA, ↓wM_tup, ↓wM_lst, ↓wM_B, ↓wM_isi, ↓wM_me, ↓wM_sl, ↓wM_noP, ↓wM_part, ↓wM_key, ↓wM_call, ↓wM_argSA0, ↓wM_argSA, ↓wM_argS_fz, ↓wM_argS_ow, ↓wM_argS_nm, ↓wM_mut, ↓wM_yes, ↓wM_rng1, ↓wM_rng2, ↓wM_wkV, ↓wM_wkT, ↓wM_wkL, ↓wM_wk2, ↓wM_wkB, ↓wM_wkC, ↓wM_not, ↓wM_tru, ↓wM_and, ↓wM_or, ↓wM_andV, ↓wM_orV, ↓wM_notV, ↓wM_ifE, ↓wM_chain, ↓wM_chainT, ↓wM_dispN, ↓wM_pairs0, ↓wM_pairs, ↓wM_new, ↓wO_gsC, ↓wS_seq, ↓wS_pass, ↓wS_brk, ↓wS_cnt, ↓wS_ret, ↓wS_drop, ↓wS_if, ↓wS_set, ↓wS_asg, ↓wS_par, ↓wS_put, ↓wS_augS, ↓wS_aug, ↓wM_run', wO_some, varK_fz, varK_ow, varK_lk, lookK_fz, lookK_ow, lookK_lk, frzK_fz, frzK_ow, frzK_lk, argK_fz, argK_owt, argK_owf, argK_lkt, argK_lkf, mutK_ow', mutO_ow, putK'_ow, getK_ow, fzO_fz, augK_fz, intD_int, retK_fz, retK_ow, retK_nm, retO_fz, retO_ow, retO_lk, setR_fz, setR_ow, setR_nm, setK_fz, setK_ow, setK_lk, tru_b, tru_n, tru_l, tru_t, key_i, key_s, gIAdd_ii, gISub_ii, gPow_18, gN_ok, gsN_ok, gT_ok, setQs_nil, setQs_fz, setQs_ow, outP_t, outP_f, outP_n, wkO_fz, wkO_ow, wkO_lk, wk_fz, wk_ow, wk_nm, items_l, items_t, unl_none, unl_some, unlK_lk, callK_R, callR_fz, callR_ow, rest_nil, rest_cons, restK_some, wipe_nil, wipe_cons, gAdd_ii, gSub_ii, gMul_l, gMul_r, gDiv_ii, gMod_ii, gNeg_i, gEq_ii, gEq_ss, gEq_bb, gNe_ii, gNe_ss, gLt_ii, gLe_ii, gGt_ii, gGe_ii, gIx_l0, gIx_t0, gIx_l1, gIx_t1, gIx_l2, gIx_t2, gIx_t3, gLen_l, gLen_t, gLen_d, gAbs_i, gAppend_l, gExtend_l, gInt_i, gTuple_l, gTuple_t, gList_l, gList_t, gMax_ii, gMin_ii, gSum_l, gIs_none, isLst, isT, isOw, List.getElem?_cons_zero, List.getElem?_cons_succ, List.length_cons, List.length_nil, List.cons_append, List.nil_append, List.replicate, List.set_cons_zero, List.set_cons_succ, true_and, and_true, if_true, List.map_cons, List.map_nil, Nat.reduceAdd, Nat.reduceSub, Nat.reduceLT, Nat.reduceLeDiff, List.length_set, List.length_map, List.length_append, List.length_range, reduceIte, reduceDIte, Bool.false_eq_true, slotOf, wb, Option.getD_some, nmOk, heldR, List.all_cons, List.all_nil, List.any_cons, List.any_nil, isNm, Bool.and_true, Bool.true_and, Bool.false_and, Bool.and_false, Bool.not_false, Bool.not_true, Bool.or_false, e2, hn]
def pk (ds : List Int) (i : Nat) (rows : List D) : D := rows.getD (nx ds i rows.length).toNat .none
theorem pk_lt {ds : List Int} {i : Nat} {rows : List D} (h : 0 < rows.length) : (nx ds i rows.length).toNat < rows.length := by
  have h1 := nx_nonneg (ds := ds) (i := i) (m := rows.length) (by omega)
  have h2 := nx_lt (ds := ds) (i := i) (m := rows.length) (by omega)
  omega
theorem pk_eq {ds : List Int} {i : Nat} {rows : List D} (h : 0 < rows.length) : rows[(nx ds i rows.length).toNat]? = some (pk ds i rows) := by
  unfold pk
  rw [List.getD_eq_getElem?_getD, List.getElem?_eq_getElem (pk_lt h)]; rfl
theorem pk_mem {ds : List Int} {i : Nat} {rows : List D} (h : 0 < rows.length) : pk ds i rows ∈ rows := List.mem_of_getElem? (pk_eq h)
theorem pk_map {α : Type} {enc : α → D} {ds : List Int} {i : Nat} {xs : List α} (h : 0 < xs.length) : ∃ x ∈ xs, pk ds i (xs.map enc) = enc x := by
  obtain ⟨x, hx, e⟩ := List.mem_map.mp (pk_mem (ds := ds) (i := i) (rows := xs.map enc) (by rw [List.length_map]; exact h))
  exact ⟨x, hx, e.symm⟩
theorem pick_at {ds : List Int} {i : Nat} {rows : List D} (h : 0 < rows.length) {s : Sl} (hs : s = .fz (.list rows) ∨ s = .fz (.tuple rows) ∨ s = .ow (.list rows)) : pickF [.ow (Wd ds i), s] = .ok (.fz (pk ds i rows)) [.ow (Wd ds (i + 1 : Nat)), s] := by
  have hn := next_ok ds i rows.length (by omega)
  have h1 := nx_nonneg (ds := ds) (i := i) (m := rows.length) (by omega)
  have e1 : gIx (.list rows) (.int (nx ds i rows.length)) = some (.fz (pk ds i rows)) := gIx_l h1 (pk_eq h)
  have e2 : gIx (.tuple rows) (.int (nx ds i rows.length)) = some (.fz (pk ds i rows)) := gIx_t h1 (pk_eq h)
  unfold W at hn
  apply run_eq
  unfold pickB
  rcases hs with e | e | e <;> subst e
  · simp (disch := first | omega | (simp only [List.length_map, List.length_append, List.length_cons, List.length_nil, List.length_set, List.length_range, sizeLine_eq]; done) | (simp only [List.length_map, List.length_append, List.length_cons, List.length_nil, List.length_set, List.length_range, sizeLine_eq]; omega)) only [↓wM_bd, ↓wM_pr, ↓wM_opt, ↓wM_C, ↓wM_var, ↓wM_look_fz, ↓wM_look_ow, ↓wM_look_nm, ↓wM_frz_fz, ↓wM_frz_ow, ↓wM_frz_nm, ↓wM_op2, ↓wM_op2T, ↓wO_gB, ↓wM_op1, ↓wM_nil, ↓wM_cons, ↓wM_frzA0, ↓wM_frzA, ↓wM_lookA0, ↓wM_lookA, ↓wM_tup, ↓wM_lst, ↓wM_B, ↓wM_isi, ↓wM_me, ↓wM_sl, ↓wM_noP, ↓wM_part, ↓wM_key, ↓wM_call, ↓wM_argSA0, ↓wM_argSA, ↓wM_argS_fz, ↓wM_argS_ow, ↓wM_argS_nm, ↓wM_mut, ↓wM_yes, ↓wM_rng1, ↓wM_rng2, ↓wM_wkV, ↓wM_wkT, ↓wM_wkL, ↓wM_wk2, ↓wM_wkB, ↓wM_wkC, ↓wM_not, ↓wM_tru, ↓wM_and, ↓wM_or, ↓wM_andV, ↓wM_orV, ↓wM_notV, ↓wM_ifE, ↓wM_chain, ↓wM_chainT, ↓wM_dispN, ↓wM_pairs0, ↓wM_pairs, ↓wM_new, ↓wO_gsC, ↓wS_seq, ↓wS_pass, ↓wS_brk, ↓wS_cnt, ↓wS_ret, ↓wS_drop, ↓wS_if, ↓wS_set, ↓wS_asg, ↓wS_par, ↓wS_put, ↓wS_augS, ↓wS_aug, ↓wM_run', wO_some, varK_fz, varK_ow, varK_lk, lookK_fz, lookK_ow, lookK_lk, frzK_fz, frzK_ow, frzK_lk, argK_fz, argK_owt, argK_owf, argK_lkt, argK_lkf, mutK_ow', mutO_ow, putK'_ow, getK_ow, fzO_fz, augK_fz, intD_int, retK_fz, retK_ow, retK_nm, retO_fz, retO_ow, retO_lk, setR_fz, setR_ow, setR_nm, setK_fz, setK_ow, setK_lk, tru_b, tru_n, tru_l, tru_t, key_i, key_s, gIAdd_ii, gISub_ii, gPow_18, gN_ok, gsN_ok, gT_ok, setQs_nil, setQs_fz, setQs_ow, outP_t, outP_f, outP_n, wkO_fz, wkO_ow, wkO_lk, wk_fz, wk_ow, wk_nm, items_l, items_t, unl_none, unl_some, unlK_lk, callK_R, callR_fz, callR_ow, rest_nil, rest_cons, restK_some, wipe_nil, wipe_cons, gAdd_ii, gSub_ii, gMul_l, gMul_r, gDiv_ii, gMod_ii, gNeg_i, gEq_ii, gEq_ss, gEq_bb, gNe_ii, gNe_ss, gLt_ii, gLe_ii, gGt_ii, gGe_ii, gIx_l0, gIx_t0, gIx_l1, gIx_t1, gIx_l2, gIx_t2, gIx_t3, gLen_l, gLen_t, gLen_d, gAbs_i, gAppend_l, gExtend_l, gInt_i, gTuple_l, gTuple_t, gList_l, gList_t, gMax_ii, gMin_ii, gSum_l, gIs_none, isLst, isT, isOw, List.getElem?_cons_zero, List.getElem?_cons_succ, List.length_cons, List.length_nil, List.cons_append, List.nil_append, List.replicate, List.set_cons_zero, List.set_cons_succ, true_and, and_true, if_true, List.map_cons, List.map_nil, Nat.reduceAdd, Nat.reduceSub, Nat.reduceLT, Nat.reduceLeDiff, List.length_set, List.length_map, List.length_append, List.length_range, reduceIte, reduceDIte, Bool.false_eq_true, slotOf, wb, Option.getD_some, nmOk, heldR, List.all_cons, List.all_nil, List.any_cons, List.any_nil, isNm, Bool.and_true, Bool.true_and, Bool.false_and, Bool.and_false, Bool.not_false, Bool.not_true, Bool.or_false, e1, hn]
  · simp (disch := first | omega | (simp only [List.length_map, List.length_append, List.length_cons, List.length_nil, List.length_set, List.length_range, sizeLine_eq]; done) | (simp only [List.length_map, List.length_append, List.length_cons, List.length_nil, List.length_set, List.length_range, sizeLine_eq]; omega)) only [↓wM_bd, ↓wM_pr, ↓wM_opt, ↓wM_C, ↓wM_var, ↓wM_look_fz, ↓wM_look_ow, ↓wM_look_nm, ↓wM_frz_fz, ↓wM_frz_ow, ↓wM_frz_nm, ↓wM_op2, ↓wM_op2T, ↓wO_gB, ↓wM_op1, ↓wM_nil, ↓wM_cons, ↓wM_frzA0, ↓wM_frzA, ↓wM_lookA0, ↓wM_lookA, ↓wM_tup, ↓wM_lst, ↓wM_B, ↓wM_isi, ↓wM_me, ↓wM_sl, ↓wM_noP, ↓wM_part, ↓wM_key, ↓wM_call, ↓wM_argSA0, ↓wM_argSA, ↓wM_argS_fz, ↓wM_argS_ow, ↓wM_argS_nm, ↓wM_mut, ↓wM_yes, ↓wM_rng1, ↓wM_rng2, ↓wM_wkV, ↓wM_wkT, ↓wM_wkL, ↓wM_wk2, ↓wM_wkB, ↓wM_wkC, ↓wM_not, ↓wM_tru, ↓wM_and, ↓wM_or, ↓wM_andV, ↓wM_orV, ↓wM_notV, ↓wM_ifE, ↓wM_chain, ↓wM_chainT, ↓wM_dispN, ↓wM_pairs0, ↓wM_pairs, ↓wM_new, ↓wO_gsC, ↓wS_seq, ↓wS_pass, ↓wS_brk, ↓wS_cnt, ↓wS_ret, ↓wS_drop, ↓wS_if, ↓wS_set, ↓wS_asg, ↓wS_par, ↓wS_put, ↓wS_augS, ↓wS_aug, ↓wM_run', wO_some, varK_fz, varK_ow, varK_lk, lookK_fz, lookK_ow, lookK_lk, frzK_fz, frzK_ow, frzK_lk, argK_fz, argK_owt, argK_owf, argK_lkt, argK_lkf, mutK_ow', mutO_ow, putK'_ow, getK_ow, fzO_fz, augK_fz, intD_int, retK_fz, retK_ow, retK_nm, retO_fz, retO_ow, retO_lk, setR_fz, setR_ow, setR_nm, setK_fz, setK_ow, setK_lk, tru_b, tru_n, tru_l, tru_t, key_i, key_s, gIAdd_ii, gISub_ii, gPow_18, gN_ok, gsN_ok, gT_ok, setQs_nil, setQs_fz, setQs_ow, outP_t, outP_f, outP_n, wkO_fz, wkO_ow, wkO_lk, wk_fz, wk_ow, wk_nm, items_l, items_t, unl_none, unl_some, unlK_lk, callK_R, callR_fz, callR_ow, rest_nil, rest_cons, restK_some, wipe_nil, wipe_cons, gAdd_ii, gSub_ii, gMul_l, gMul_r, gDiv_ii, gMod_ii, gNeg_i, gEq_ii, gEq_ss, gEq_bb, gNe_ii, gNe_ss, gLt_ii, gLe_ii, gGt_ii, gGe_ii, gIx_l0, gIx_t0, gIx_l1, gIx_t1, gIx_l2, gIx_t2, gIx_t3, gLen_l, gLen_t, gLen_d, gAbs_i, gAppend_l, gExtend_l, gInt_i, gTuple_l, gTuple_t, gList_l, gList_t, gMax_ii, gMin_ii, gSum_l, gIs_none, isLst, isT, isOw, List.getElem?_cons_zero, List.getElem?_cons_succ, List.length_cons, List.length_nil, List.cons_append, List.nil_append, List.replicate, List.set_cons_zero, List.set_cons_succ, true_and, and_true, if_true, List.map_cons, List.map_nil, Nat.reduceAdd, Nat.reduceSub, Nat.reduceLT, Nat.reduceLeDiff, List.length_set, List.length_map, List.length_append, List.length_range, reduceIte, reduceDIte, Bool.false_eq_true, slotOf, wb, Option.getD_some, nmOk, heldR, List.all_cons, List.all_nil, List.any_cons, List.any_nil, isNm, Bool.and_true, Bool.true_and, Bool.false_and, Bool.and_false, Bool.not_false, Bool.not_true, Bool.or_false, e2, hn]
  · simp (disch := first | omega | (simp only [List.length_map, List.length_append, List.length_cons, List.length_nil, List.length_set, List.length_range, sizeLine_eq]; done) | (simp only [List.length_map, List.length_append, List.length_cons, List.length_nil, List.length_set, List.length_range, sizeLine_eq]; omega)) only [↓wM_bd, ↓wM_pr, ↓wM_opt, ↓wM_C, ↓wM_var, ↓wM_look_fz, ↓wM_look_ow, ↓wM_look_nm, ↓wM_frz_fz, ↓wM_frz_ow, ↓wM_frz_nm, ↓wM_op2, ↓wM_op2T, ↓wO_gB, ↓wM_op1, ↓wM_nil, ↓wM_cons, ↓wM_frzA0, ↓wM_frzA, ↓wM_lookA0, ↓wM_lookA, ↓wM_tup, ↓wM_lst, ↓wM_B, ↓wM_isi, ↓wM_me, ↓wM_sl, ↓wM_noP, ↓wM_part, ↓wM_key, ↓wM_call, ↓wM_argSA0, ↓wM_argSA, ↓wM_argS_fz, ↓wM_argS_ow, ↓wM_argS_nm, ↓wM_mut, ↓wM_yes, ↓wM_rng1, ↓wM_rng2, ↓wM_wkV, ↓wM_wkT, ↓wM_wkL, ↓wM_wk2, ↓wM_wkB, ↓wM_wkC, ↓wM_not, ↓wM_tru, ↓wM_and, ↓wM_or, ↓wM_andV, ↓wM_orV, ↓wM_notV, ↓wM_ifE, ↓wM_chain, ↓wM_chainT, ↓wM_dispN, ↓wM_pairs0, ↓wM_pairs, ↓wM_new, ↓wO_gsC, ↓wS_seq, ↓wS_pass, ↓wS_brk, ↓wS_cnt, ↓wS_ret, ↓wS_drop, ↓wS_if, ↓wS_set, ↓wS_asg, ↓wS_par, ↓wS_put, ↓wS_augS, ↓wS_aug, ↓wM_run', wO_some, varK_fz, varK_ow, varK_lk, lookK_fz, lookK_ow, lookK_lk, frzK_fz, frzK_ow, frzK_lk, argK_fz, argK_owt, argK_owf, argK_lkt, argK_lkf, mutK_ow', mutO_ow, putK'_ow, getK_ow, fzO_fz, augK_fz, intD_int, retK_fz, retK_ow, retK_nm, retO_fz, retO_ow, retO_lk, setR_fz, setR_ow, setR_nm, setK_fz, setK_ow, setK_lk, tru_b, tru_n, tru_l, tru_t, key_i, key_s, gIAdd_ii, gISub_ii, gPow_18, gN_ok, gsN_ok, gT_ok, setQs_nil, setQs_fz, setQs_ow, outP_t, outP_f, outP_n, wkO_fz, wkO_ow, wkO_lk, wk_fz, wk_ow, wk_nm, items_l, items_t, unl_none, unl_some, unlK_lk, callK_R, callR_fz, callR_ow, rest_nil, rest_cons, restK_some, wipe_nil, wipe_cons, gAdd_ii, gSub_ii, gMul_l, gMul_r, gDiv_ii, gMod_ii, gNeg_i, gEq_ii, gEq_ss, gEq_bb, gNe_ii, gNe_ss, gLt_ii, gLe_ii, gGt_ii, gGe_ii, gIx_l0, gIx_t0, gIx_l1, gIx_t1, gIx_l2, gIx_t2, gIx_t3, gLen_l, gLen_t, gLen_d, gAbs_i, gAppend_l, gExtend_l, gInt_i, gTuple_l, gTuple_t, gList_l, gList_t, gMax_ii, gMin_ii, gSum_l, gIs_none, isLst, isT, isOw, List.getElem?_cons_zero, List.getElem?_cons_succ, List.length_cons, List.length_nil, List.cons_append, List.nil_append, List.replicate, List.set_cons_zero, List.set_cons_succ, true_and, and_true, if_true, List.map_cons, List.map_nil, Nat.reduceAdd, Nat.reduceSub, Nat.reduceLT, Nat.reduceLeDiff, List.length_set, List.length_map, List.length_append, List.length_range, reduceIte, reduceDIte, Bool.false_eq_true, slotOf, wb, Option.getD_some, nmOk, heldR, List.all_cons, List.all_nil, List.any_cons, List.any_nil, isNm, Bool.and_true, Bool.true_and, Bool.false_and, Bool.and_false, Bool.not_false, Bool.not_true, Bool.or_false, e1, hn]
theorem pick_l {ds : List Int} {i : Nat} {rows : List D} (h : 0 < rows.length) : pickF [.ow (Wd ds i), .fz (.list rows)] = .ok (.fz (pk ds i rows)) [.ow (Wd ds (i + 1 : Nat)), .fz (.list rows)] := pick_at h (.inl rfl)
theorem pick_t {ds : List Int} {i : Nat} {rows : List D} (h : 0 < rows.length) : pickF [.ow (Wd ds i), .fz (.tuple rows)] = .ok (.fz (pk ds i rows)) [.ow (Wd ds (i + 1 : Nat)), .fz (.tuple rows)] := pick_at h (.inr (.inl rfl))
theorem pick_o {ds : List Int} {i : Nat} {rows : List D} (h : 0 < rows.length) : pickF [.ow (Wd ds i), .ow (.list rows)] = .ok (.fz (pk ds i rows)) [.ow (Wd ds (i + 1 : Nat)), .ow (.list rows)] := pick_at h (.inr (.inr rfl))
end DL

namespace DL
open PySem L2
theorem itemLt_ii (a b : Int) : PyProof.Rows.itemOrd.blt (.inl a) (.inl b) = decide (a < b) := rfl
theorem dataLt_cons {x y : D} {xs ys : List D} : PySem.W.dataLt (.tuple (x :: xs)) (.tuple (y :: ys)) = PyProof.Rows.lexLt PyProof.Rows.itemOrd (PySem.W.keyToks x ++ PySem.W.keyToksAll xs) (PySem.W.keyToks y ++ PySem.W.keyToksAll ys) := by
  unfold PySem.W.dataLt
  simp only [PySem.W.keyToks, PySem.W.keyToksAll]
  exact PyProof.Rows.lex_self (O := PyProof.Rows.itemOrd) _ _ _
theorem dataLt_ints {a b : Int} {xs ys : List D} : PySem.W.dataLt (.tuple (.int a :: xs)) (.tuple (.int b :: ys)) = (decide (a < b) || (!decide (b < a) && PySem.W.dataLt (.tuple xs) (.tuple ys))) := by
  rw [dataLt_cons]
  simp only [PySem.W.keyToks, List.cons_append, List.nil_append]
  rw [PyProof.Rows.lex_cons (O := PyProof.Rows.itemOrd)]
  rfl
theorem dataLt_nil : PySem.W.dataLt (.tuple []) (.tuple []) = false := by rfl
theorem dataLt_p2 {a b c d : Int} : PySem.W.dataLt (.tuple [.int a, .int b]) (.tuple [.int c, .int d]) = decide (a < c ∨ (a = c ∧ b < d)) := by
  rw [dataLt_ints, dataLt_ints, dataLt_nil]
  by_cases h1 : a < c <;> by_cases h2 : c < a <;> by_cases h3 : b < d <;> by_cases h4 : d < b <;> simp [h1, h2, h3, h4] <;> omega
theorem cmp_p2 {a b c d : Int} : cmpOk (.tuple [.int a, .int b]) (.tuple [.int c, .int d]) = true := by rfl
theorem gGt_tt {xs ys : List D} (h : cmpOk (.tuple xs) (.tuple ys) = true) : gGt (.tuple xs) (.tuple ys) = some (PySem.W.dataLt (.tuple ys) (.tuple xs)) := if_pos h
theorem gLt_tt {xs ys : List D} (h : cmpOk (.tuple xs) (.tuple ys) = true) : gLt (.tuple xs) (.tuple ys) = some (PySem.W.dataLt (.tuple xs) (.tuple ys)) := if_pos h
theorem gGt_p2 {a b c d : Int} : gGt (.tuple [.int a, .int b]) (.tuple [.int c, .int d]) = some (decide (c < a ∨ (c = a ∧ d < b))) := by
  rw [gGt_tt cmp_p2, dataLt_p2]
theorem gLt_p2 {a b c d : Int} : gLt (.tuple [.int a, .int b]) (.tuple [.int c, .int d]) = some (decide (a < c ∨ (a = c ∧ b < d))) := by
  rw [gLt_tt cmp_p2, dataLt_p2]
theorem dataLe_D (x y : D) : PySem.W.dataLe false id x y = !PySem.W.dataLt y x := by rfl
theorem dataLt_i (a b : Int) : PySem.W.dataLt (.int a) (.int b) = decide (a < b) := PySem.W.dataLt_int a b
def sortI (ns : List Int) : List Int := ns.mergeSort fun a b => decide (a ≤ b)
theorem sortD_ints (ns : List Int) : sortD (ns.map .int) = (sortI ns).map .int := by
  unfold sortD sortI
  rw [List.map_mergeSort]
  intro a _ b _
  rw [dataLe_D, dataLt_i]
  by_cases h : a ≤ b
  · simp [h, Int.not_lt.mpr h]
  · simp [h, Int.lt_of_not_ge h]
theorem sortOk_ints {ns : List Int} (h : ns.length ≤ sizeLine) : sortOk (ns.map .int) = true := by
  unfold sortOk
  simp only [Bool.and_eq_true, List.all_eq_true, List.mem_map, decide_eq_true_eq, Bool.or_eq_true, forall_exists_index, and_imp, forall_apply_eq_imp_iff₂, List.length_map]
  refine ⟨⟨⟨⟨fun a _ b _ => ?_, fun a _ => ?_⟩, .inr fun a _ => ?_⟩, fun a _ => ?_⟩, h⟩ <;> first | rfl | simp [PySem.W.alike, noD, PyData.depth]
theorem gSorted_ints {ns : List Int} (h : ns.length ≤ sizeLine) : gSorted [.list (ns.map .int)] = some (.ow (.list ((sortI ns).map .int))) := by
  show (if sortOk _ = true then _ else _) = _
  rw [sortOk_ints h, if_pos rfl, sortD_ints]
theorem sortI_perm (ns : List Int) : (sortI ns).Perm ns := List.mergeSort_perm _ _
theorem sortI_sorted (ns : List Int) : (sortI ns).Pairwise (· ≤ ·) := by
  have := List.pairwise_mergeSort (le := fun a b : Int => decide (a ≤ b)) (by intro a b c; simp; omega) (by intro a b; simp; omega) ns
  unfold sortI
  simpa using this
theorem sum_perm {xs ys : List Int} (h : xs.Perm ys) : xs.sum = ys.sum := by
  induction h with
  | nil => rfl
  | cons x _ ih => simp [ih]
  | swap x y l => simp; omega
  | trans _ _ h1 h2 => exact h1.trans h2
theorem maxL_uniq {ns : List Int} {m : Int} (h1 : m ∈ ns) (h2 : ∀ y ∈ ns, y ≤ m) : maxL ns = m := by
  have hn : ns ≠ [] := fun z => by rw [z] at h1; cases h1
  obtain ⟨a, b⟩ := maxL_spec hn
  exact Int.le_antisymm (h2 _ a) (b _ h1)
theorem minL_uniq {ns : List Int} {m : Int} (h1 : m ∈ ns) (h2 : ∀ y ∈ ns, m ≤ y) : minL ns = m := by
  have hn : ns ≠ [] := fun z => by rw [z] at h1; cases h1
  obtain ⟨a, b⟩ := minL_spec hn
  exact Int.le_antisymm (b _ h1) (h2 _ a)
/-- the sorted ones: all but the last, the last -/
theorem sortI_last {ns : List Int} (h : ns ≠ []) : ∃ front, sortI ns = front ++ [maxL ns] ∧ front.sum = ns.sum - maxL ns := by
  have hn : sortI ns ≠ [] := fun z => h (List.Perm.nil_eq (z ▸ sortI_perm ns)).symm
  have e := List.dropLast_concat_getLast hn
  have hs := sortI_sorted ns
  have hm : (sortI ns).getLast hn = maxL ns := by
    refine (maxL_uniq ((sortI_perm ns).mem_iff.mp (List.getLast_mem hn)) fun y hy => ?_).symm
    have hy' := (sortI_perm ns).mem_iff.mpr hy
    rw [← e] at hy' hs
    rcases List.mem_append.mp hy' with q | q
    · exact (List.pairwise_append.mp hs).2.2 y q _ (by simp)
    · simp at q; omega
  refine ⟨(sortI ns).dropLast, by rw [← hm]; exact e.symm, ?_⟩
  have := sum_perm (sortI_perm ns)
  rw [← e, List.sum_append, hm] at this
  simp at this
  omega
theorem cutD_front {xs : List D} {x : D} : cutD (xs ++ [x]) none (some (-1)) = xs := by
  have e : HT.sIx (xs ++ [x]).length (xs ++ [x]).length (some (-1)) = xs.length := by
    unfold HT.sIx
    simp only
    rw [if_pos (by decide), List.length_append, List.length_singleton]; omega
  unfold cutD
  rw [e, HT.sIx_none]
  simp
theorem cutD_take {xs : List D} {k : Nat} : cutD xs none (some (k : Int)) = xs.take k := by
  unfold cutD
  rw [HT.sIx_none, HT.sIx_nat]
  simp only [List.drop_zero, Nat.sub_zero]
  rw [List.take_eq_take_iff]; omega
theorem cutD_drop {xs : List D} {k : Nat} : cutD xs (some (k : Int)) none = xs.drop k := by
  unfold cutD
  rw [HT.sIx_none, HT.sIx_nat]
  rcases Nat.le_total k xs.length with h | h
  · rw [Nat.min_eq_left h, List.take_of_length_le (by rw [List.length_drop]; omega)]
  · rw [Nat.min_eq_right h]; simp [List.drop_of_length_le h]
theorem gSl_l {ds : List D} {lo hi : Option Int} : gSl (.list ds) lo hi = some (.ow (.list (cutD ds lo hi))) := rfl
theorem gSl_t {ds : List D} {lo hi : Option Int} : gSl (.tuple ds) lo hi = some (.fz (.tuple (cutD ds lo hi))) := rfl
theorem wM_cut {α : Type} {m : M α} {ρ ρ' : List Sl} {r : α} {Q : α → List Sl → Prop} (h : wM m ρ fun a ρ1 => a = r ∧ ρ1 = ρ') (q : Q r ρ') : wM m ρ Q := wM_mono h fun a ρ1 ⟨e1, e2⟩ => by subst e1; subst e2; exact q
theorem W0 (ds : List Int) : PyData.dict (List.foldl (fun acc kv => dput kv.1 kv.2 acc) [] (List.zip [(Sum.inr "draws" : Key), .inr "at"] [PyData.list (ds.map .int), .int 0])) = Wd ds (0 : Nat) := rfl
theorem next_ok' {ds : List Int} {i : Nat} {m : Int} (hm : 0 < m) : nextF [.ow (Wd ds i), .fz (.int m)] = .ok (.fz (.int (nx ds i m))) [.ow (Wd ds (i + 1 : Nat)), .fz (.int m)] := next_ok ds i m hm
theorem nx_bd (ds : List Int) (i : Nat) (m : Int) (h : 0 < m) : 0 ≤ nx ds i m ∧ nx ds i m < m := ⟨nx_nonneg h, nx_lt h⟩
/-- data that may be compared -/
def fine (n : Nat) (d : D) : Prop := d.canLay0 = true ∧ d.depth ≤ n
theorem fine_all {n : Nat} {ds : List D} (h : ∀ d ∈ ds, fine n d) : PyData.canLayAll0 ds = true ∧ PyData.depthAll ds ≤ n := by
  induction ds with
  | nil => exact ⟨by simp [PyData.canLayAll0], by simp [PyData.depthAll]⟩
  | cons x xs ih =>
    obtain ⟨a, b⟩ := ih fun d hd => h d (by simp [hd])
    obtain ⟨c, e⟩ := h x (by simp)
    exact ⟨by simp [PyData.canLayAll0, a, c], by simp only [PyData.depthAll]; omega⟩
theorem fine_l {n : Nat} {ds : List D} (h : ∀ d ∈ ds, fine n d) : fine (n + 1) (.list ds) := by
  obtain ⟨a, b⟩ := fine_all h
  exact ⟨by simpa [PyData.canLay0] using a, by simpa [PyData.depth] using b⟩
theorem fine_t {n : Nat} {ds : List D} (h : ∀ d ∈ ds, fine n d) : fine (n + 1) (.tuple ds) := by
  obtain ⟨a, b⟩ := fine_all h
  exact ⟨by simpa [PyData.canLay0] using a, by simpa [PyData.depth] using b⟩
theorem fine_i {n : Nat} {i : Int} : fine n (.int i) := ⟨by simp [PyData.canLay0], by simp [PyData.depth]⟩
theorem fine_b {n : Nat} {i : Bool} : fine n (.bool i) := ⟨by simp [PyData.canLay0], by simp [PyData.depth]⟩
theorem fine_n {n : Nat} : fine n .none := ⟨by simp [PyData.canLay0], by simp [PyData.depth]⟩
theorem fine_s {n : Nat} {x : Str} (h : PyData.strOk x = true) : fine n (.str x) := ⟨by simpa [PyData.canLay0] using h, by simp [PyData.depth]⟩
theorem fine_le {n m : Nat} {d : D} (h : fine n d) (hm : n ≤ m) : fine m d := ⟨h.1, Nat.le_trans h.2 hm⟩
theorem fine_sh {n : Nat} {d : D} (h : fine n d) (hn : n ≤ 64) : SeqAt.shaped d = true := by
  unfold SeqAt.shaped
  rw [h.1, Bool.true_and, decide_eq_true_eq]; exact Nat.le_trans h.2 hn
theorem eqv_i {a b : Int} : PyData.eqv (.int a) (.int b) = decide (a = b) := by
  simp only [PyData.eqv]
  show (a == b) = _
  rw [show (a == b) = decide (a = b) from rfl]
theorem eqv_s {a b : Str} : PyData.eqv (.str a) (.str b) = decide (a = b) := by
  simp only [PyData.eqv]
  by_cases h : a = b
  · subst h; simp
  · rw [decide_eq_false h]; simpa using h
theorem eqv_t {a b : List D} : PyData.eqv (.tuple a) (.tuple b) = PyData.eqvAll a b := by simp only [PyData.eqv]
theorem eqv_l {a b : List D} : PyData.eqv (.list a) (.list b) = PyData.eqvAll a b := by simp only [PyData.eqv]
theorem eqv_c {x y : D} {a b : List D} : PyData.eqvAll (x :: a) (y :: b) = (PyData.eqv x y && PyData.eqvAll a b) := by simp only [PyData.eqvAll]
theorem eqv_0 : PyData.eqvAll [] [] = true := by simp only [PyData.eqvAll]
theorem eqv_10 {x : D} {a : List D} : PyData.eqvAll (x :: a) [] = false := by simp only [PyData.eqvAll]
theorem eqv_01 {x : D} {a : List D} : PyData.eqvAll [] (x :: a) = false := by simp only [PyData.eqvAll]
theorem gEq_of {x y : D} (hx : SeqAt.shaped x = true) (hy : SeqAt.shaped y = true) : gEq x y = some (PyData.eqv x y) := by
  unfold gEq
  split
  · simp only [PyData.eqv]
  · simp only [PyData.eqv]
  · simp only [PyData.eqv]
  · rw [hx, hy]; rfl
theorem gEq_lnil {ds : List D} (h : SeqAt.shaped (.list ds) = true) : gEq (.list ds) (.list []) = some ds.isEmpty := by
  rw [gEq_of h (by rfl), eqv_l]
  cases ds with
  | nil => rw [eqv_0]; rfl
  | cons x xs => rw [eqv_10]; rfl
theorem gNe_lnil {ds : List D} (h : SeqAt.shaped (.list ds) = true) : gNe (.list ds) (.list []) = some (!ds.isEmpty) := gNe_of (gEq_lnil h)
theorem fine_ints {n : Nat} {ms : List Int} : fine (n + 1) (.list (ms.map .int)) := fine_l fun d hd => by
  obtain ⟨i, _, rfl⟩ := List.mem_map.mp hd; exact fine_i
theorem shaped_ints (ms : List Int) : SeqAt.shaped (.list (ms.map .int)) = true := fine_sh (n := 1) fine_ints (by omega)
theorem gIndex_ints {ms : List Int} {m : Int} (h : m ∈ ms) : gIndex (.list (ms.map .int)) [.int m] = some (.fz (.int (ms.findIdx (· == m) : Nat))) := by
  show (if _ then _ else _) = _
  rw [shaped_ints, fine_sh (n := 1) fine_i (by omega), if_pos (by rfl), List.findIdx?_map]
  have e : ((fun z => PyData.eqv z (.int m)) ∘ PyData.int) = fun z => z == m := by
    funext z; simp only [Function.comp, PyData.eqv]
  rw [e, List.findIdx?_eq_some_of_exists ⟨m, h, by simp⟩]
  rfl
end DL

namespace DL
open PySem PySem.Spec PyProof.Rows L2
/-! ### list(range(..)), tuple(range(..)) -/
def int1 : D → Option (Int × Int)
  | .int n => some (0, n)
  | _ => none
def int2 : D → D → Option (Int × Int)
  | .int n, .int m => some (n, m)
  | _, _ => none
def dRgA1 (f : M Rs) : M (Int × Int) := bd f fun r => bd (look r) fun d => opt (int1 d)
def dRgA2 (f g : M Rs) : M (Int × Int) := bd f fun r => bd g fun r2 => bd (look r) fun d => bd (look r2) fun d2 => opt (int2 d d2)
def rgD (a b : Int) : List D := (List.range (b - a).toNat).map fun k => .int (a + (k : Nat))
def rgOk (p : Int × Int) : Bool := decide (0 ≤ p.1 ∧ p.2 ≤ 16777216 ∧ p.1 ≤ 16777216 ∧ 0 ≤ p.2)
def lRg (p : Int × Int) : Option Rs := if rgOk p = true then some (.ow (.list (rgD p.1 p.2))) else none
def tRg (p : Int × Int) : Option Rs := if rgOk p = true then some (.fz (.tuple (rgD p.1 p.2))) else none
def dLRg (w : M (Int × Int)) : M Rs := bd w fun p => opt (lRg p)
def dTRg (w : M (Int × Int)) : M Rs := bd w fun p => opt (tRg p)
def tSemP (K : PySem.W.Frag) (f : M (Int × Int)) : L2.St → Hp → (Int → Int → Hp → Prop) → Prop := fun σ H Q => ∃ F ρ r ρ', Sta K F H σ ρ ∧ f ρ = .ok r ρ' ∧ ∀ F' H', Ext K F H σ ρ F' H' σ ρ' → Q r.1 r.2 H'
theorem prgWeak {X : Cx} {e : Expr} {t t' : L2.St → Hp → (Int → Int → Hp → Prop) → Prop} (h : PRg X e t) (w : ∀ σ H Q, t' σ H Q → t σ H Q) : PRg X e t' := fun pins s σ H Q I q => h pins s σ H Q I (w σ H Q q)
section
variable {K : PySem.W.Frag}
theorem sem_rga1 {f : M Rs} : ∀ σ H Q, tSemP K (dRgA1 f) σ H Q → tRg1 (tSem K f) σ H Q := fun σ H Q ⟨F, ρ, r, ρ', s, e, k⟩ => by
  obtain ⟨ra, ρ1, e1, e⟩ := bd_ok e
  obtain ⟨d, ρ4, e4, e⟩ := bd_ok e
  obtain ⟨eg, e5⟩ := opt_ok e
  refine ⟨F, ρ, ra, ρ1, s, e1, fun F1 H1 x x1 r1 => ?_⟩
  obtain ⟨e4', w⟩ := look_ok x1.st r1 e4
  subst e4'; subst e5
  unfold int1 at eg
  split at eg
  · cases eg; exact ⟨_, w.int, k F1 H1 x1⟩
  · cases eg
theorem sem_rga2 {f g : M Rs} : ∀ σ H Q, tSemP K (dRgA2 f g) σ H Q → tRg2 (tSem K f) (tSem K g) σ H Q := fun σ H Q ⟨F, ρ, r, ρ', s, e, k⟩ => by
  obtain ⟨ra, ρ1, e1, e⟩ := bd_ok e
  obtain ⟨rb, ρ2, e2, e⟩ := bd_ok e
  obtain ⟨da, ρ3, e3, e⟩ := bd_ok e
  obtain ⟨db, ρ4, e4, e⟩ := bd_ok e
  obtain ⟨eg, e5⟩ := opt_ok e
  refine ⟨F, ρ, ra, ρ1, s, e1, fun F1 H1 x x1 r1 => ⟨F1, ρ1, rb, ρ2, x1.st, e2, fun F2 H2 y x2 r2 => ?_⟩⟩
  have r1' := r1.ext x2
  obtain ⟨e3', w1⟩ := look_ok x2.st r1' e3
  subst e3'
  obtain ⟨e4', w2⟩ := look_ok x2.st r2 e4
  subst e4'; subst e5
  unfold int2 at eg
  split at eg
  · cases eg; exact ⟨_, _, w1.int, w2.int, k F2 H2 (x1.trans x2)⟩
  · cases eg
theorem rpa_rg {F : Hp} (a b : Int) : RpA K F (rgV a b) (rgD a b) := by
  unfold rgV rgD
  induction List.range (b - a).toNat with
  | nil => exact .nil
  | cons x xs ih => exact .cons (.int _) ih
theorem rgOk_ok {a b : Int} (h : rgOk (a, b) = true) : RgOk a b := by
  unfold rgOk at h
  rw [decide_eq_true_eq] at h
  exact RgOk.of_le h.1 h.2.1 h.2.2.1 h.2.2.2
theorem sem_lrg {w : M (Int × Int)} : ∀ σ H Q, tSem K (dLRg w) σ H Q → tLstRg (tSemP K w) σ H Q := fun σ H Q ⟨F, ρ, r, ρ', s, e, k⟩ => by
  obtain ⟨p, ρ1, e1, e⟩ := bd_ok e
  obtain ⟨eg, e5⟩ := opt_ok e
  subst e5
  unfold lRg at eg
  split at eg
  case isFalse => cases eg
  case isTrue hk =>
    cases eg
    refine ⟨F, ρ, p, ρ', s, e1, fun F1 H1 x1 => ⟨rgOk_ok hk, fun q hq => ?_⟩⟩
    have hN : NewR K F1 H1 (.ow (.list (rgD p.1 p.2))) Q := fun F3 H3 v g hr => k F3 H3 v (x1.trans (x1.st.grow g)) (x1.st.res g hr fun a z => x1.back z)
    exact hN.lst x1.st.le (rpa_rg _ _) hq
theorem sem_trg {w : M (Int × Int)} : ∀ σ H Q, tSem K (dTRg w) σ H Q → tTupRg (tSemP K w) σ H Q := fun σ H Q ⟨F, ρ, r, ρ', s, e, k⟩ => by
  obtain ⟨p, ρ1, e1, e⟩ := bd_ok e
  obtain ⟨eg, e5⟩ := opt_ok e
  subst e5
  unfold tRg at eg
  split at eg
  case isFalse => cases eg
  case isTrue hk =>
    cases eg
    refine ⟨F, ρ, p, ρ', s, e1, fun F1 H1 x1 => ⟨rgOk_ok hk, fun q hq => ?_⟩⟩
    have hN : NewR K F1 H1 (.fz (.tuple (rgD p.1 p.2))) Q := fun F3 H3 v g hr => k F3 H3 v (x1.trans (x1.st.grow g)) (x1.st.res g hr fun a z => x1.back z)
    exact hN.tup x1.st.le (rpa_rg _ _) hq
variable {X : Cx} {a b : Expr} {fa fb : M Rs} {p pos : Pos} {e : Expr} {w : M (Int × Int)}
theorem rga1 (hg : Gl X "range") (hm : X.mg "range" = none) (ha : PE X a (tSem X.K fa)) (na : starEach [a] X.env = (false, eval a X.env) :: starEach [] X.env := by rfl) : PRg X (.Call (.Name "range" p) [a] [] pos) (tSemP X.K (dRgA1 fa)) := prgWeak (prg_1 hg hm ha na) sem_rga1
theorem rga2 (hg : Gl X "range") (hm : X.mg "range" = none) (ha : PE X a (tSem X.K fa)) (hb : PE X b (tSem X.K fb)) (na : starEach [a, b] X.env = (false, eval a X.env) :: starEach [b] X.env := by rfl) (nb : starEach [b] X.env = (false, eval b X.env) :: starEach [] X.env := by rfl) (hp : (backTo pos (starEach [b] X.env)).any (·.1) = false := by rfl) : PRg X (.Call (.Name "range" p) [a, b] [] pos) (tSemP X.K (dRgA2 fa fb)) := prgWeak (prg_2 hg hm ha hb na nb hp) sem_rga2
theorem elrg (hc : X.calm = true) (hg : Gl X "list") (hm : X.mg "list" = none) (he : PRg X e (tSemP X.K w)) (na : starEach [e] X.env = (false, eval e X.env) :: starEach [] X.env := by rfl) : PE X (.Call (.Name "list" p) [e] [] pos) (tSem X.K (dLRg w)) := peWeak (pe_listRg hc hg hm he na) sem_lrg
theorem etrg (hc : X.calm = true) (hg : Gl X "tuple") (hm : X.mg "tuple" = none) (he : PRg X e (tSemP X.K w)) (na : starEach [e] X.env = (false, eval e X.env) :: starEach [] X.env := by rfl) : PE X (.Call (.Name "tuple" p) [e] [] pos) (tSem X.K (dTRg w)) := peWeak (pe_tupRg hc hg hm he na) sem_trg
end
section
variable {ρ : List Sl}
theorem wM_rga1 {f : M Rs} {Q : Int × Int → List Sl → Prop} : wM (dRgA1 f) ρ Q = wM f ρ fun r ρ1 => wM (look r) ρ1 fun d ρ2 => wO (int1 d) fun p => Q p ρ2 := by
  simp only [wM_def, wO_def]; unfold dRgA1; simp only [vM_bd, vM_opt]
theorem wM_rga2 {f g : M Rs} {Q : Int × Int → List Sl → Prop} : wM (dRgA2 f g) ρ Q = wM f ρ fun r ρ1 => wM g ρ1 fun r2 ρ2 => wM (look r) ρ2 fun d ρ3 => wM (look r2) ρ3 fun d2 ρ4 => wO (int2 d d2) fun p => Q p ρ4 := by
  simp only [wM_def, wO_def]; unfold dRgA2; simp only [vM_bd, vM_opt]
theorem wM_lrg {w : M (Int × Int)} {Q : Rs → List Sl → Prop} : wM (dLRg w) ρ Q = wM w ρ fun p ρ1 => wO (lRg p) fun r => Q r ρ1 := by
  simp only [wM_def, wO_def]; unfold dLRg; simp only [vM_bd, vM_opt]
theorem wM_trg {w : M (Int × Int)} {Q : Rs → List Sl → Prop} : wM (dTRg w) ρ Q = wM w ρ fun p ρ1 => wO (tRg p) fun r => Q r ρ1 := by
  simp only [wM_def, wO_def]; unfold dTRg; simp only [vM_bd, vM_opt]
theorem int1_ok {n : Int} : int1 (.int n) = some (0, n) := rfl
theorem int2_ok {n m : Int} : int2 (.int n) (.int m) = some (n, m) := rfl
theorem lRg_ok {a b : Int} (h1 : 0 ≤ a) (h2 : b ≤ 16777216) (h3 : a ≤ 16777216) (h4 : 0 ≤ b) : lRg (a, b) = some (.ow (.list (rgD a b))) := if_pos (decide_eq_true ⟨h1, h2, h3, h4⟩)
theorem tRg_ok {a b : Int} (h1 : 0 ≤ a) (h2 : b ≤ 16777216) (h3 : a ≤ 16777216) (h4 : 0 ≤ b) : tRg (a, b) = some (.fz (.tuple (rgD a b))) := if_pos (decide_eq_true ⟨h1, h2, h3, h4⟩)
end
end DL

namespace DL
open PySem PySem.Spec PyProof.Rows L2
/-! ### the end: the script as a law gets it -/
def notLst (v : Value) : Bool := match v with
  | .type s => !(s == "list")
  | _ => true
def noLists (K : PySem.W.Frag) : Bool := K.all fun p => notLst p.2.cls
theorem noLists_ok : ∀ {K : PySem.W.Frag} {a : Addr} {o : Obj}, noLists K = true → K.lookup a = some o → o.cls ≠ .type "list"
  | [], _, _, _, h => nomatch h
  | (b, p) :: K, a, o, hn, h => fun hc => by
    unfold noLists at hn
    rw [List.all_cons, Bool.and_eq_true] at hn
    rw [List.lookup_cons] at h
    split at h
    · cases h
      have := hn.1
      simp only [hc] at this
      exact absurd this (by decide)
    · exact noLists_ok (K := K) hn.2 h hc
def spL : Sp := fun vs H Q _ => ∃ (a : Addr) (ns : List Int), vs = [.ref a] ∧ Rd H a (.lst (ns.map V.int)) ∧ ns.length ≤ 63 ∧ ∀ H', Q (.bl true) H'
theorem spL_of {K : PySem.W.Frag} {H : Hp} {a : Addr} {ns : List Int} {E : XK} (hS : SqL K H a (ns.map V.int)) (hl : ns.length ≤ 63) (hN : noLists K = true) : spL [.ref a] H (fun v _ => v = .bl true) E := by
  refine ⟨a, ns, rfl, ?_, hl, fun _ => rfl⟩
  rcases hS with h | ⟨o, its, n, hk, hc, _⟩
  · exact h
  · exact absurd hc (noLists_ok hN hk)
/-- what a law asks of its own def -/
def LawOk (sem : M Rs) : Prop := ∀ script : List Int, script.length ≤ 63 → ∃ ρ', sem [.fz (.list (script.map .int))] = .ok (.fz (.bool true)) ρ'
theorem spL_imp {K : PySem.W.Frag} {sem : M Rs} (h : LawOk sem) : ∀ vs H Q E, spL vs H Q E → spD K 1 sem vs H Q E := fun vs H Q E ⟨a, ns, e, hr, hl, q⟩ => by
  subst e
  obtain ⟨ρ', hs⟩ := h ns hl
  have hF : Rd (fun b => if b = a then H a else none) a (.lst (ns.map V.int)) := by
    rcases hr with z | ⟨o, z⟩
    · exact .inl ((if_pos rfl).trans z)
    · exact .inr ⟨o, (if_pos rfl).trans z⟩
  have no : ∀ i b, ¬ HdAt [some (V.ref a)] [Sl.fz (.list (ns.map .int))] i b := fun i b z => by
    rcases z with ⟨_, d, z⟩ | ⟨_, d, z⟩ <;>
    · match i, z with
      | 0, z => cases z
      | i + 1, z => cases z
  refine ⟨rfl, fun b => if b = a then H a else none, _, _, ρ', ⟨fun b o z => ?_, rfl, fun i s z => ?_, fun i j b z _ => absurd z (no i b)⟩, hs, fun F' H' v x r => ?_⟩
  · by_cases hb : b = a
    · subst hb; exact (if_pos rfl).symm.trans z
    · exact nomatch (if_neg hb).symm.trans z
  · match i, z with
    | 0, z =>
      cases z
      exact ⟨.ref a, rfl, .lst hF (RpA.of_ints ns)⟩
    | i + 1, z => cases z
  · have r : Rp K F' v (.bool true) := r
    cases r
    exact q H'
theorem law_end {P : Program} {w : World} {K : PySem.W.Frag} {mg : Str → Option Value} {k : Nat} {fa : Addr} {sem : M Rs} (h : LawOk sem)
    (q : ∃ fd : FuncData, (∀ (s : Shared) (u : Value), BindsTo s fd ⟨[u], []⟩ [("script", u)]) ∧ ∀ base : Heap, K.In base → base.Ns mainGlobals mg → FnOk P w K mg base CX0 k fa fd ["script"] (spD K 1 sem)) :
    ∃ fd : FuncData, (∀ (s : Shared) (u : Value), BindsTo s fd ⟨[u], []⟩ [("script", u)]) ∧ ∀ base : Heap, K.In base → base.Ns mainGlobals mg → FnOk P w K mg base CX0 k fa fd ["script"] spL := by
  obtain ⟨fd, b, F⟩ := q
  exact ⟨fd, b, fun base h1 h2 => (F base h1 h2).imp (spL_imp h)⟩
end DL

namespace DL
open PySem PySem.Spec PyProof.Rows L2
/-! ### a tuple the other way round -/
section
variable {prog : Program} {w : World} {A : Around} {E : Value → Shared → Prop} {s : Shared}
theorem fm_congr {α β : Type} {f g : α → Option β} : ∀ {l : List α}, (∀ x ∈ l, f x = g x) → l.filterMap f = l.filterMap g
  | [], _ => rfl
  | x :: l, h => by
    rw [List.filterMap_cons, List.filterMap_cons, h x (by simp), fm_congr fun y hy => h y (by simp [hy])]
theorem adj_rev (n : Nat) : Builtin.Slice.sliceAdjust none none (-1) (n : Int) = ((n : Int) - 1, -1) := rfl
theorem plc_rev (n : Nat) : Builtin.Slice.slicePlaces ((n : Int) - 1) (-1) (-1) = n := by
  unfold Builtin.Slice.slicePlaces
  rw [if_neg (by omega)]
  by_cases h : 0 < n
  · rw [if_pos (by omega)]
    have : ((n : Int) - 1 - -1 - 1) / (- -1) = (n : Int) - 1 := by
      rw [show (- -1 : Int) = 1 by omega, Int.ediv_one]; omega
    rw [this]; omega
  · rw [if_neg (by omega)]; omega
theorem app_rev {sl : Addr} {vs : Value} {n : Nat} {Q : Int × Int × Nat → Shared → Prop} (hs : s.heap.IsSliceOf sl .none .none vs) (ps : IsPart vs (some (-1))) (h : Q ((n : Int) - 1, -1, n) s) :
    wpAny (model prog w) A (Builtin.Slice.sliceApplied (.ref sl) (pure (n : Int))) Q E s := by
  obtain ⟨ob, e1, e2, e3⟩ := id hs
  unfold Builtin.Slice.sliceApplied Builtin.Slice.sliceFields
  refine wpAny_bind (wpAny_bind (wpAny_field e1 e3 (x := .none) rfl (wpAny_bind (wpAny_field e1 e3 (x := .none) rfl (wpAny_bind (wpAny_field e1 e3 (x := vs) rfl (wpAny_pure ?_)))))))
  refine wpAny_bind (HT.slicePart_ ps ?_)
  show wpAny _ _ (if ((-1 : Int) == 0) = true then _ else _) _ _ s
  rw [if_neg (show ¬ ((-1 : Int) == 0) = true by decide)]
  refine wpAny_bind (slicePart_none (wpAny_bind (slicePart_none (wpAny_bind (wpAny_pure ?_)))))
  show wpAny _ _ (match Builtin.Slice.sliceAdjust none none (-1) (n : Int) with | (a, b) => pure (a, (-1 : Int), Builtin.Slice.slicePlaces a b (-1))) _ _ s
  rw [adj_rev]
  show wpAny _ _ (pure ((n : Int) - 1, (-1 : Int), Builtin.Slice.slicePlaces ((n : Int) - 1) (-1) (-1))) _ _ s
  rw [plc_rev]
  exact wpAny_pure h
theorem pick_rev (xs : Array Value) : ((List.range xs.size).filterMap fun (m : Nat) => xs[(((xs.size : Nat) : Int) - 1 + (m : Int) * (-1)).toNat]?).toArray = xs.toList.reverse.toArray := by
  have e : (List.range xs.size).filterMap (fun (m : Nat) => xs[(((xs.size : Nat) : Int) - 1 + (m : Int) * (-1)).toNat]?) = xs.toList.reverse := by
    apply List.ext_getElem?
    intro i
    have hf : ∀ m ∈ List.range xs.size, xs[(((xs.size : Nat) : Int) - 1 + (m : Int) * (-1)).toNat]? = some (xs.toList.getD (xs.size - 1 - m) .none) := fun m hm => by
      have hm := List.mem_range.mp hm
      rw [show (((xs.size : Nat) : Int) - 1 + (m : Int) * (-1)).toNat = xs.size - 1 - m by omega, ← Array.getElem?_toList, List.getD_eq_getElem?_getD, List.getElem?_eq_getElem (by rw [Array.length_toList]; omega)]; rfl
    rw [fm_congr hf]
    have e2 : (List.range xs.size).filterMap (fun m => some (xs.toList.getD (xs.size - 1 - m) .none)) = (List.range xs.size).map fun m => xs.toList.getD (xs.size - 1 - m) .none := by
      rw [← List.filterMap_eq_map]; rfl
    rw [e2, List.getElem?_map]
    by_cases hi : i < xs.size
    · rw [List.getElem?_eq_getElem (by rw [List.length_range]; exact hi), List.getElem_range, List.getElem?_reverse (by rw [Array.length_toList]; exact hi), Array.length_toList, Option.map_some, List.getD_eq_getElem?_getD, List.getElem?_eq_getElem (by rw [Array.length_toList]; omega)]; rfl
    · rw [List.getElem?_eq_none (by rw [List.length_range]; omega), List.getElem?_eq_none (by rw [List.length_reverse, Array.length_toList]; omega)]; rfl
  rw [e]
theorem tup_rev {t sl : Addr} {items : Array Value} {vs : Value} {Q : Value → Shared → Prop} (ht : IsTup s.heap t items) (hs : s.heap.IsSliceOf sl .none .none vs) (ps : IsPart vs (some (-1)))
    (h : Q (.ref s.heap.objs.size) { s with heap := s.heap.push { cls := .type "tuple", data := .seq items.toList.reverse.toArray } }) (hz : items.size ≤ sizeLine) : wpAny (model prog w) A (getItem (.ref t) (.ref sl)) Q E s := by
  have hk : sizeOk (.seq items.toList.reverse.toArray) := by
    show items.toList.reverse.toArray.size ≤ sizeLine
    rw [List.size_toArray, List.length_reverse, Array.length_toList]; exact hz
  obtain ⟨ob, e1, e2, e3⟩ := id hs
  have ty : s.TypeIs (.ref sl) "slice" := ⟨ob, e1, e2⟩
  unfold getItem
  try with_reducible refine wpAny_holding ?_
  first | refine wpAny_bind (wpAny_pure ?_) | skip
  refine wpAny_bind (wpAny_sequenceKey ht.typeIs (by decide) ?_)
  refine wpAny_bind (wpAny_callSpecial?_slot (name := Str.ofString "__getitem__") ht.typeIs slot_tuple_getitem (wpAny_call_entry slot_tuple_getitem ht.typeIs entry_tuple_getitem ?_ (args_tuple_getitem _ _)))
  show wpAny _ _ (Builtin.Tuple.tupleItemsOf (.ref t) >>= _) _ _ s
  refine wpAny_bind (tupleItemsOf_ ht (wpAny_bind (wpAny_typeOf ty ?_)))
  rw [if_pos (by decide)]
  refine wpAny_bind (app_rev hs ps ?_)
  show wpAny _ _ (if ((((items.size : Nat) : Int) - 1) == 0 && (-1 : Int) == 1 && items.size == items.size) = true then _ else _) _ _ s
  rw [if_neg (by rw [show ((-1 : Int) == 1) = false from rfl]; simp), pick_rev]
  first
    | exact wpAny_bind (m := Builtin.Tuple.tupleExact _) (wpAny_newObj_type (wpAny_pure ⟨_, rfl, wpAny_pure h⟩) hk)
    | exact wpAny_bind (m := Builtin.Tuple.tupleExact _) (wpAny_newObj_type (wpAny_bind (wpAny_pure (wpAny_pure ⟨_, rfl, wpAny_pure h⟩))) hk)
    | exact wpAny_bind (wpAny_bind (m := Builtin.Tuple.tupleExact _) (wpAny_newObj_type (wpAny_pure (wpAny_pure ⟨_, rfl, wpAny_pure h⟩)) hk))
    | exact wpAny_bind (wpAny_bind (m := Builtin.Tuple.tupleExact _) (wpAny_newObj_type (wpAny_pure ⟨_, rfl, wpAny_pure h⟩) hk))
end
section
variable {K : PySem.W.Frag} {X : Cx}
def tRevA (K : PySem.W.Frag) (te : TE) : TE := fun σ H Q => te σ H fun x H1 => (∃ a xs, x = .ref a ∧ SqL K H1 a xs ∧ ∀ p, H1 p = none → Q (.ref p) (upd H1 p (.lst xs.reverse))) ∨ (∃ a xs, x = .ref a ∧ SqT K H1 a xs ∧ ∀ p, H1 p = none → Q (.ref p) (upd H1 p (.tup xs.reverse)))
theorem pe_revA {e : Expr} {te : TE} {k : Nat} {p1 p2 p3 pos : Pos} (he : PE X e te) : PE X (.Subscript e (.Slice none none (some (.UnaryOp .USub (.Constant (.int 1) k p1) p2)) p3) pos) (tRevA X.K te) := by
  refine ⟨fun pins s σ H Q I h => Subscript_ (thn (he.run pins s σ H _ I h) fun v s1 ⟨x, H1, I1, r1, q1⟩ => ?_)⟩
  have part : PO X (some (.UnaryOp .USub (.Constant (.int 1) k p1) p2)) (tPart (tUn (rU fun i => .int (-i)) (tC (.int 1)))) := po_some (pe_un un_neg pe_int)
  refine wpAny_Slice (thn (po_none.run pins s1 σ H1 (fun o H2 => o = none ∧ H2 = H1) I1 ⟨rfl, rfl⟩) fun v1 s2 ⟨o1, H2, I2, g1, z1, z2⟩ => ?_)
  subst z1 z2
  refine thn (po_none.run pins s2 σ H2 (fun o H3 => o = none ∧ H3 = H2) I2 ⟨rfl, rfl⟩) fun v2 s3 ⟨o2, H3, I3, g2, z3, z4⟩ => ?_
  subst z3 z4
  refine thn (part.run pins s3 σ H3 (fun o H4 => o = some (-1) ∧ H4 = H3) I3 ⟨1, rfl, -1, rfl, rfl, rfl⟩) fun v3 s4 ⟨o3, H4, I4, g3, z5, z6⟩ => ?_
  subst z5 z6
  have I5 : Inv X pins σ H4 { s4 with heap := s4.heap.push { cls := .type "slice", data := .fields #[v1, v2, v3] } } := I4.kept (t' := s4.toks) fun c oc q => Heap.get?_push_of_some _ q
  rcases q1 with ⟨a, xs, ex, hx, q⟩ | ⟨a, xs, ex, hx, q⟩
  · subst ex
    cases r1
    obtain ⟨its, rv, pl, hz⟩ := I5.list hx
    have hl := rv.length
    show wpAny (model X.prog X.w) X.A (subscriptTail e (.Slice none none (some (.UnaryOp .USub (.Constant (.int 1) k p1) p2)) p3) (.ref a) (.ref s4.heap.objs.size)) (EP X pins σ Q) X.xe { s4 with heap := s4.heap.push { cls := .type "slice", data := .fields #[v1, v2, v3] } }
    refine tail_any (ops := [.ref a, .ref s4.heap.objs.size]) pl.isList.typeIs slot_list_getitem.lookup (wpAny_getItem_list_slice pl.isList (Heap.IsSliceOf.new _ v1 v2 v3) g1 g2 g3 (by decide) ?_ (by rw [List.size_toArray]; omega)) (by with_unfolding_all rfl)
    rw [PySem.W.krv_pick]
    exact ⟨.ref _, _, I5.laid (t' := s4.toks) (o := .lst xs.reverse) (fun c oc q => Heap.get?_push_of_some _ q) (Nat.le_refl _) ⟨by rw [List.length_reverse]; exact hz, _, 0, rv.reverse, Heap.get?_push_size _ rfl⟩, rfl, q _ (I5.hok.fresh (Nat.le_refl _))⟩
  · subst ex
    cases r1
    obtain ⟨its, rv, pl, hz⟩ := I5.tuple hx
    have hl := rv.length
    cases g1
    cases g2
    show wpAny (model X.prog X.w) X.A (subscriptTail e (.Slice none none (some (.UnaryOp .USub (.Constant (.int 1) k p1) p2)) p3) (.ref a) (.ref s4.heap.objs.size)) (EP X pins σ Q) X.xe { s4 with heap := s4.heap.push { cls := .type "slice", data := .fields #[.none, .none, v3] } }
    refine tail_any (ops := [.ref a, .ref s4.heap.objs.size]) pl.typeIs slot_tuple_getitem.lookup (tup_rev pl (Heap.IsSliceOf.new _ .none .none v3) g3 ?_ (by rw [List.size_toArray]; omega)) (by with_unfolding_all rfl)
    exact ⟨.ref _, _, I5.laid (t' := s4.toks) (o := .tup xs.reverse) (fun c oc q => Heap.get?_push_of_some _ q) (Nat.le_refl _) ⟨by rw [List.length_reverse]; exact hz, _, rv.reverse, IsTup.new _ _⟩, rfl, q _ (I5.hok.fresh (Nat.le_refl _))⟩
def gRev : D → Option Rs
  | .list ds => some (.ow (.list ds.reverse))
  | .tuple ds => some (.fz (.tuple ds.reverse))
  | _ => none
theorem sem_rev {f : M Rs} : ∀ σ H Q, tSem K (dOp1 gRev f) σ H Q → tRevA K (tSem K f) σ H Q := fun σ H Q ⟨F, ρ, res, ρ', s, e, k⟩ => by
  obtain ⟨ra, ρ1, e1, e⟩ := bd_ok e
  obtain ⟨d, ρ2, e2, e⟩ := bd_ok e
  obtain ⟨eg, e5⟩ := opt_ok e
  refine ⟨F, ρ, ra, ρ1, s, e1, fun F1 H1 x x1 r1 => ?_⟩
  obtain ⟨e2', wv⟩ := look_ok x1.st r1 e2
  subst e2'; subst e5
  have hN : NewR K F1 H1 res Q := fun F3 H3 v g hr => k F3 H3 v (x1.trans (x1.st.grow g)) (x1.st.res g hr fun a z => x1.back z)
  unfold gRev at eg
  split at eg
  · cases eg
    obtain ⟨a, vs, rfl, h1, rr⟩ := wv.list x1.st.le
    exact .inl ⟨a, vs, rfl, .inl h1, fun p hp => hN.lst x1.st.le rr.reverse hp⟩
  · cases eg
    obtain ⟨a, vs, rfl, h1, rr⟩ := wv.tuple x1.st.le
    exact .inr ⟨a, vs, rfl, h1, fun p hp => hN.tup x1.st.le rr.reverse hp⟩
  · cases eg
theorem erev {e : Expr} {f : M Rs} {k : Nat} {p1 p2 p3 pos : Pos} (he : PE X e (tSem X.K f)) : PE X (.Subscript e (.Slice none none (some (.UnaryOp .USub (.Constant (.int 1) k p1) p2)) p3) pos) (tSem X.K (dOp1 gRev f)) := peWeak (pe_revA he) sem_rev
theorem gRev_l {ds : List D} : gRev (.list ds) = some (.ow (.list ds.reverse)) := rfl
theorem gRev_t {ds : List D} : gRev (.tuple ds) = some (.fz (.tuple ds.reverse)) := rfl
end
/-! ### range(a, b, -1) -/
def rng3 : List D → Option Wk
  | [.int i, .int j, .int (-1)] => if -(2 ^ 62) ≤ i ∧ i < 2 ^ 62 ∧ -(2 ^ 62) ≤ j ∧ j < 2 ^ 62 then some ((List.range (i - j).toNat).map fun k => .int (i - (k : Nat)), none) else none
  | _ => none
def dRng3 (f : M (List Rs)) : M Wk := bd f fun rs => bd (lookA rs) fun ds => opt (rng3 ds)
section
variable {K : PySem.W.Frag}
theorem itok_rangeC {F0 N : Hp} {lo : Int} {n : Nat} : ItOk K F0 N (Itc lo (-1) n) ((List.range n).map fun k => .int (lo - (k : Nat))) := fun i F H s1 s2 s3 => by
  refine ⟨fun d hd => ?_, fun hi => by show n ≤ i; simp at hi; omega⟩
  obtain ⟨hi, rfl⟩ := at_rng hd
  refine ⟨hi, fun x H' y => ?_⟩
  obtain ⟨e1, e2⟩ := y
  subst e1; subst e2
  rw [show lo + (i : Nat) * (-1) = lo - (i : Nat) by omega]
  exact ⟨F, Grow.refl s2, .int _⟩
theorem sem_rng3 {f : M (List Rs)} : ∀ σ H R, tSemI K (dRng3 f) σ H R → iRng3 (tSemA K f) σ H R := fun σ H R ⟨F, ρ, ds, l, ρ', s, e, k⟩ => by
  obtain ⟨rs, ρ1, e1, e⟩ := bd_ok e
  obtain ⟨da, ρ2, e2, e⟩ := bd_ok e
  obtain ⟨e3, e4⟩ := opt_ok e
  subst e4
  refine ⟨F, ρ, rs, ρ1, s, e1, fun F1 H1 vs x1 q1 => ?_⟩
  obtain ⟨z, w⟩ := lookA_ok x1.st q1 e2
  subst z
  unfold rng3 at e3
  split at e3
  · split at e3
    · rename_i i j hj
      cases e3
      obtain ⟨x, y, z, rfl, wx, wy, wz⟩ := w.three
      rw [wx.int, wy.int, wz.int]
      exact ⟨i, j, -1, _, rfl, RgC.neg hj.1 hj.2.1 hj.2.2.1 hj.2.2.2, k F1 H1 F1 _ x1 unlNone x1.st.le (fun b nb i z => nb (x1.st.held (.inl z)).1) itok_rangeC⟩
    · cases e3
  · cases e3
theorem ir3 {X : Cx} {tg a b c : Expr} {fa : M (List Rs)} {p pos : Pos} (hg : Gl X "range") (hm : X.mg "range" = none) (ha : PA X [a, b, c] (tSemA X.K fa))
    (hs : starEach [a, b, c] X.env = (false, eval a X.env) :: starEach [b, c] X.env := by rfl) (hpl : (backTo pos (starEach [b, c] X.env)).any (·.1) = false := by rfl) : PI X tg (.Call (.Name "range" p) [a, b, c] [] pos) (tSemI X.K (dRng3 fa)) := piWeak (pi_range3 hg hm ha hs hpl) sem_rng3
end
theorem wM_rng3 {ρ : List Sl} {f : M (List Rs)} {Q : Wk → List Sl → Prop} : wM (dRng3 f) ρ Q = wM f ρ fun rs ρ1 => wM (lookA rs) ρ1 fun ds ρ2 => wO (rng3 ds) fun p => Q p ρ2 := by
  simp only [wM_def, wO_def]; unfold dRng3; simp only [vM_bd, vM_opt]
theorem rng3_ok {i j : Int} (h0 : -4611686018427387904 ≤ i) (h3 : i < 4611686018427387904) (h1 : -4611686018427387904 ≤ j) (h2 : j < 4611686018427387904) : rng3 [.int i, .int j, .int (-1)] = some ((List.range (i - j).toNat).map fun k => .int (i - (k : Nat)), none) := if_pos ⟨h0, h3, h1, h2⟩
end DL

namespace DL
open PySem PySem.Spec PyProof.Rows L2
/-! ### zip of two, each a list or a tuple -/
def SqX (K : PySem.W.Frag) (t : Bool) (H : Hp) (a : Addr) (xs : List V) : Prop := if t = true then SqT K H a xs else SqL K H a xs
def ItX (t : Bool) (h : Heap) (it a : Addr) (k : Nat) : Prop := if t = true then h.IsTupleIter it a k else h.IsListIter it a k
def SeX (t : Bool) (h : Heap) (a : Addr) (xs : Array Value) : Prop := if t = true then h.IsTuple a xs else h.IsList a xs
def bgX (t : Bool) (a : Addr) : Obj := if t = true then { cls := .type "tuple_iterator", data := .fields #[.ref a, .int 0 0] } else { cls := .type "list_iterator", data := .fields #[.ref a, .int 0 0] }
theorem begX (t : Bool) (a : Addr) (xs : Array Value) : Begins (.ref a) (bgX t a) fun h => SeX t h a xs := by
  cases t
  · exact begins_list a xs
  · exact begins_tuple a xs
theorem bgX_it {t : Bool} {h : Heap} {it a : Addr} (e : h.get? it = some (bgX t a)) : ItX t h it a 0 := by
  cases t
  · exact ⟨_, e, rfl, rfl⟩
  · exact ⟨_, e, rfl, rfl⟩
theorem ItX.at {t : Bool} {h h' : Heap} {it a : Addr} {k : Nat} (x : ItX t h it a k) (e : ∀ o, h.get? it = some o → h'.get? it = some o) : ItX t h' it a k := by
  cases t
  · exact Heap.IsListIter.at x e
  · exact Heap.IsTupleIter.at x e
theorem ItX.ob {t : Bool} {h : Heap} {it a : Addr} {k : Nat} (x : ItX t h it a k) : ∃ o, h.get? it = some o ∧ ∀ v, o.data ≠ .cell v := by
  cases t <;>
  · obtain ⟨o, e, _, d⟩ := x
    exact ⟨o, e, fun v q => by rw [d] at q; cases q⟩
theorem drX {prog : Program} {w : World} {A : Around} (hh : A.handled = none) (t : Bool) (it a : Addr) (hne : a ≠ it) (xs : Array Value) :
    Draws prog w A it [it, a] xs.size (fun i v => xs[i]? = some v) (fun i h => ItX t h it a i ∧ SeX t h a xs) := by
  cases t
  · exact Draws.list hh it a hne xs
  · exact Draws.tuple hh it a hne xs
section
variable {X : Cx} {pins : List (Addr × Obj)} {s : Shared} {σ : L2.St} {H : Hp}
theorem sqX_at {t : Bool} {a : Addr} {xs : List V} (I : Inv X pins σ H s) (h : SqX X.K t H a xs) : ∃ its : List Value, Vals xs its ∧ SeX t s.heap a its.toArray ∧ a < s.heap.objs.size := by
  cases t
  · obtain ⟨its, rv, pl, _⟩ := I.list h
    exact ⟨its, rv, pl.isList, pl.lt⟩
  · obtain ⟨its, rv, pl, _⟩ := I.tuple h
    obtain ⟨o, ho, _⟩ := id pl
    exact ⟨its, rv, pl, Heap.lt_size ho⟩
theorem sqX_inj {t : Bool} {a : Addr} {xs ys : List V} (I : Inv X pins σ H s) (h : SqX X.K t H a xs) (h' : SqX X.K t H a ys) : xs = ys := by
  cases t
  · exact I.list_inj h h'
  · exact I.tuple_inj h h'
end
theorem sepX {z TI TO i1 i2 a b : Addr} (D : ZipApart z TI TO i1 i2 a b) : ZipSep2 z TI TO i1 i2 [i1, a] [i2, b] where
  TIz := D.TIz
  TOz := D.TOz
  TITO := D.TITO
  TIi1 := D.TIi1
  mem1 := by simp
  zf1 := by simp [D.i1z.symm, D.l1z.symm]
  Tf1 := by simp [D.TOi1, D.l1TO.symm]
  TIi2 := D.TIi2
  mem2 := by simp
  zf2 := by simp [D.i2z.symm, D.l2z.symm]
  Tf2 := by simp [D.TOi2, D.l2TO.symm]
  sep1_2 := by simp [D.i12, D.l2i1.symm]
  sep2_1 := by simp [D.i12.symm, D.l1i2.symm]
def ItzX (K : PySem.W.Frag) (t u : Bool) (a b : Addr) : It :=
  ⟨fun i H => ∃ (xs ys : List V) (x y : V), SqX K t H a xs ∧ SqX K u H b ys ∧ xs[i]? = some x ∧ ys[i]? = some y,
    fun i H v H' => ∃ T x y, v = .ref T ∧ H T = none ∧ H' = upd H T (.tup [x, y]) ∧ (∀ xs, SqX K t H a xs → xs[i]? = some x) ∧ ∀ ys, SqX K u H b ys → ys[i]? = some y,
    fun i H => ∃ xs ys : List V, SqX K t H a xs ∧ SqX K u H b ys ∧ i ≤ xs.length ∧ i ≤ ys.length ∧ (i = xs.length ∨ i = ys.length)⟩
theorem turn_zipX {P : Program} {w : World} {K : PySem.W.Frag} {elts : List Expr} {kk : Nat} {tpos : Pos} {t u : Bool} {a b z TI TO i1 i2 : Addr} (D : ZipApart z TI TO i1 i2 a b) :
    Turn P w K (.Tuple elts kk tpos) (ItzX K t u a b) [z, TI, TO, i1, i2] z (fun i h => IsZip h z TI TO .none ∧ IsPair h TI (.ref i1) (.ref i2) ∧ (∃ x y, IsPair h TO x y) ∧ ItX t h i1 a i ∧ ItX u h i2 b i) where
  mem := List.mem_cons_self ..
  obj := fun i h st c hc => by
    obtain ⟨gz, gI, ⟨x, y, gO⟩, q1, q2⟩ := st
    simp only [List.mem_cons, List.not_mem_nil, or_false] at hc
    rcases hc with q | q | q | q | q <;> subst q
    · exact ⟨_, gz, fun v q => nomatch q⟩
    · exact ⟨_, gI, fun v q => nomatch q⟩
    · exact ⟨_, gO, fun v q => nomatch q⟩
    · exact q1.ob
    · exact q2.ob
  keep := fun i h h' ⟨gz, gI, ⟨x, y, gO⟩, q1, q2⟩ k => ⟨k z (by simp) _ gz, k TI (by simp) _ gI, ⟨x, y, k TO (by simp) _ gO⟩, q1.at fun o e => k i1 (by simp) o e, q2.at fun o e => k i2 (by simp) o e⟩
  item := by
    intro X hP hw hK hc i pins s σ H E I hf st hg
    subst hP hw hK
    obtain ⟨gz, gI, ⟨x0, y0, gO⟩, q1, q2⟩ := st
    obtain ⟨xs, ys, x, y, sx, sy, ex, ey⟩ := hg
    obtain ⟨us, ru, au, lu⟩ := sqX_at I sx
    obtain ⟨vs, rw', av, lv⟩ := sqX_at I sy
    obtain ⟨u0, hu, rx⟩ := ru.get ex
    obtain ⟨v0, hv, ry⟩ := rw'.get ey
    have zlt : z < s.heap.objs.size := Heap.lt_size gz
    have n1 : i < us.toArray.size := by rw [List.size_toArray]; exact (List.getElem?_eq_some_iff.mp hu).1
    have n2 : i < vs.toArray.size := by rw [List.size_toArray]; exact (List.getElem?_eq_some_iff.mp hv).1
    have hd1 : X.A.in1.handled = none := I.ok.hd hc
    have d1 := drX (prog := X.prog) (w := X.w) hd1 t i1 a D.l1i1 us.toArray
    have d2 := drX (prog := X.prog) (w := X.w) hd1 u i2 b D.l2i2 vs.toArray
    refine wpAny_pyNext_zipD2_item (sepX D) d1 d2 gz gI gO ⟨q1, au⟩ ⟨q2, av⟩ n1 n2 fun u1 v1 h' tk p1 p2 z' O' c1 c2 hT hsz hk => ?_
    obtain rfl : u0 = u1 := Option.some.inj (hu.symm.trans (by simpa using p1))
    obtain rfl : v0 = v1 := Option.some.inj (hv.symm.trans (by simpa using p2))
    refine ⟨_, rfl, wpAny_letOwnedTupleGo_zip (s := { s with heap := h', toks := tk }) z' fun h'' z'' sb => ?_⟩
    have T2 : h''.get? s.heap.objs.size = some { cls := .type "tuple", data := .seq #[u0, v0] } := (sb.2 _ (Nat.ne_of_gt zlt)).trans hT
    have nob : ObjOk X.prog X.w (upd H s.heap.objs.size (.tup [x, y])) h'' s.heap.objs.size (.tup [x, y]) := ⟨by show 2 ≤ sizeLine; decide, [u0, v0], .cons rx (.cons ry .nil), ⟨_, T2, rfl, _, rfl⟩⟩
    have I1 : Inv X pins σ (upd H s.heap.objs.size (.tup [x, y])) { s with heap := h'', toks := tk } :=
      I.turnedNew (t' := tk) (ch := [z, TI, TO, i1, i2]) (fun c o hb q => by
        simp only [List.mem_cons, List.not_mem_nil, or_false, not_or] at hb
        exact (sb.2 c hb.1).trans (hk c o hb.1 hb.2.2.1 hb.2.2.2.1 hb.2.2.2.2 q)) hf (Nat.le_refl _) nob
    refine ⟨.ref s.heap.objs.size, _, I1, rfl, ⟨_, x, y, rfl, I.hok.fresh (Nat.le_refl _), rfl, fun l hl => by rw [sqX_inj I hl sx]; exact ex, fun l hl => by rw [sqX_inj I hl sy]; exact ey⟩, ⟨z'', ?_, ⟨u0, v0, ?_⟩, ?_, ?_⟩, fun c hm => ?_⟩
    · exact (sb.2 _ D.TIz).trans (hk _ _ D.TIz D.TITO D.TIi1 D.TIi2 gI)
    · exact (sb.2 _ D.TOz).trans O'
    · exact c1.1.at fun o q => (sb.2 _ D.i1z).trans q
    · exact c2.1.at fun o q => (sb.2 _ D.i2z).trans q
    · have lt : c < s.heap.objs.size := by
        obtain ⟨o1, e1, _⟩ := q1.ob
        obtain ⟨o2, e2, _⟩ := q2.ob
        simp only [List.mem_cons, List.not_mem_nil, or_false] at hm
        rcases hm with q | q | q | q | q <;> subst q
        · exact zlt
        · exact Heap.lt_size gI
        · exact Heap.lt_size gO
        · exact Heap.lt_size e1
        · exact Heap.lt_size e2
      rw [upd_ne (Nat.ne_of_lt lt)]
      exact (hf c hm).1
  done := by
    intro X hP hw hK hc i pins s σ H E I hf st hg
    subst hP hw hK
    obtain ⟨gz, gI, ⟨x0, y0, gO⟩, q1, q2⟩ := st
    obtain ⟨xs, ys, sx, sy, m1, m2, m3⟩ := hg
    obtain ⟨us, ru, au, _⟩ := sqX_at I sx
    obtain ⟨vs, rw', av, _⟩ := sqX_at I sy
    have l1 := ru.length
    have l2 := rw'.length
    have hd1 : X.A.in1.handled = none := I.ok.hd hc
    have d1 := drX (prog := X.prog) (w := X.w) hd1 t i1 a D.l1i1 us.toArray
    have d2 := drX (prog := X.prog) (w := X.w) hd1 u i2 b D.l2i2 vs.toArray
    refine wpAny_pyNext_zipD2_end (sepX D) d1 d2 gz gI gO ⟨q1, au⟩ ⟨q2, av⟩ (by rw [List.size_toArray]; omega) (by rw [List.size_toArray]; omega) (by rw [List.size_toArray, List.size_toArray]; omega) fun h' tk hk => ⟨rfl, I.turnedL (t' := tk) (ch := [z, TI, TO, i1, i2]) (fun c o hb q => ?_) hf⟩
    simp only [List.mem_cons, List.not_mem_nil, or_false, not_or] at hb
    exact hk c o hb.1 hb.2.2.1 hb.2.2.2.1 hb.2.2.2.2 q
  self := fun A i s Q E st h => wpAny_pyIter_zip st.1 h
def iZipX (K : PySem.W.Frag) (ta : TA) : TI := fun σ H R => ta σ H fun vs H1 => ∃ t u a b xs ys, vs = [.ref a, .ref b] ∧ SqX K t H1 a xs ∧ SqX K u H1 b ys ∧ R (ItzX K t u a b) H1
theorem pi_zipX {X : Cx} {e e2 : Expr} {ta : TA} {p pos tpos : Pos} {elts : List Expr} {kk : Nat} (hg : Gl X "zip") (hm : X.mg "zip" = none) (ha : PA X [e, e2] ta)
    (hs : starEach [e, e2] X.env = (false, eval e X.env) :: starEach [e2] X.env := by rfl) (hpl : (backTo pos (starEach [e2] X.env)).any (·.1) = false := by rfl) :
    PI X (.Tuple elts kk tpos) (.Call (.Name "zip" p) [e, e2] [] pos) (iZipX X.K ta) := by
  refine ⟨fun pins s σ H R I h => Call_ (ld_blt I hg hm boot_zip (callWith_type1 (thn (ha.run pos pins s σ H _ I h) fun us s1 ⟨vs, H1, I1, r1, q1⟩ => ?_) hs hpl))⟩
  obtain ⟨t, u, a, b, xs, ys, ex, sx, sy, q⟩ := q1
  subst ex
  cases r1 with
  | cons r rr =>
    cases rr with
    | cons r' rr =>
      cases rr
      cases r
      cases r'
      obtain ⟨us, ru, au, lu⟩ := sqX_at I1 sx
      obtain ⟨vs, rw', av, lv⟩ := sqX_at I1 sy
      have ok5 : ∀ c, c ∈ [s1.heap.objs.size + 4, s1.heap.objs.size + 2, s1.heap.objs.size + 3, s1.heap.objs.size, s1.heap.objs.size + 1] → FpOk X pins H1 c := fun c hm => by
        have le : s1.heap.objs.size ≤ c := by
          simp only [List.mem_cons, List.not_mem_nil, or_false] at hm
          omega
        exact I1.fpOk le (I1.hok.fresh le)
      refine zip_begins2 (begX t a us.toArray) (begX u b vs.toArray) au av fun h' gz gI gO o1 o2 hsz hk => wpAny_pyIter_zip gz ?_
      have I2 : Inv X pins σ H1 { s1 with heap := h' } := I1.kept (t' := s1.toks) hk
      exact ⟨s1.heap.objs.size + 4, [s1.heap.objs.size + 4, s1.heap.objs.size + 2, s1.heap.objs.size + 3, s1.heap.objs.size, s1.heap.objs.size + 1], _, _, H1, rfl, I2, turn_zipX (PySem.W.ktu_apart s1.heap.objs.size a b lu lv), ⟨gz, gI, ⟨_, _, gO⟩, bgX_it o1, bgX_it o2⟩, ok5, q⟩
end DL

namespace DL
open PySem PySem.Spec PyProof.Rows L2
def ltD : D → Option (List D)
  | .list ds => some ds
  | .tuple ds => some ds
  | _ => none
def zipP (xs ys : List D) : List D := (List.zip xs ys).map fun p => .tuple [p.1, p.2]
def zipD : List D → Option Wk
  | [d1, d2] => (ltD d1).bind fun xs => (ltD d2).map fun ys => (zipP xs ys, none)
  | _ => none
def dZip (f : M (List Rs)) : M Wk := bd f fun rs => bd (frzA rs) fun ds => opt (zipD ds)
section
variable {K : PySem.W.Frag}
theorem rp_seqX {F : Hp} {v : V} {d : D} {ds : List D} (r : Rp K F v d) (h : ltD d = some ds) : ∃ t a xs, v = .ref a ∧ (∀ H, Same F H → SqX K t H a xs) ∧ RpA K F xs ds := by
  unfold ltD at h
  split at h
  · cases h
    cases r with
    | lst h r => exact ⟨false, _, _, rfl, fun H s => .inl (rd_mono s h), r⟩
  · cases h
    cases r with
    | tup h r => exact ⟨true, _, _, rfl, fun H s => sqT_mono s h, r⟩
  · cases h
theorem zip_at {xs ys : List D} {i : Nat} {d : D} (h : (zipP xs ys)[i]? = some d) : ∃ x y, xs[i]? = some x ∧ ys[i]? = some y ∧ d = .tuple [x, y] := by
  unfold zipP at h
  rw [List.getElem?_map] at h
  cases e : (List.zip xs ys)[i]? with
  | none => rw [e] at h; cases h
  | some p =>
    rw [e] at h; cases h
    obtain ⟨h1, h2⟩ := List.getElem?_zip_eq_some.mp e
    exact ⟨_, _, h1, h2, rfl⟩
theorem itok_zip {F0 : Hp} {t u : Bool} {a b : Addr} {vs ws : List V} {xs ys : List D} (h1 : ∀ H, Same F0 H → SqX K t H a vs) (h2 : ∀ H, Same F0 H → SqX K u H b ws) (r1 : RpA K F0 vs xs) (r2 : RpA K F0 ws ys) :
    ItOk K F0 F0 (ItzX K t u a b) (zipP xs ys) := fun i F H s1 s2 s3 => by
  refine ⟨fun d hd => ?_, fun hi => ?_⟩
  · obtain ⟨x, y, ex, ey, rfl⟩ := zip_at hd
    have l1 : i < vs.length := by rw [r1.length]; exact (List.getElem?_eq_some_iff.mp ex).1
    have l2 : i < ws.length := by rw [r2.length]; exact (List.getElem?_eq_some_iff.mp ey).1
    refine ⟨⟨vs, ws, _, _, h1 H s3, h2 H s3, List.getElem?_eq_getElem l1, List.getElem?_eq_getElem l2⟩, fun v H' ⟨T, x', y', e1, e2, e3, e4, e5⟩ => ?_⟩
    subst e1; subst e3
    have n : NewR K F H (.fz (.tuple [x, y])) (fun v H' => ∃ F', Grow F H F' H' ∧ Rp K F' v (.tuple [x, y])) := fun F' H' v g r => ⟨F', g, r⟩
    exact n.tup s2 (.cons ((r1.get (e4 vs (h1 H s3)) ex).mono s1) (.one ((r2.get (e5 ws (h2 H s3)) ey).mono s1))) e2
  · have hl : i = min vs.length ws.length := by
      rw [← hi, r1.length, r2.length]; unfold zipP; rw [List.length_map, List.length_zip]
    exact ⟨vs, ws, h1 H s3, h2 H s3, by omega, by omega, by omega⟩
theorem sem_zip {f : M (List Rs)} : ∀ σ H R, tSemI K (dZip f) σ H R → iZipX K (tSemA K f) σ H R := fun σ H R ⟨F, ρ, ds, l, ρ', s, e, k⟩ => by
  obtain ⟨rs, ρ1, e1, e⟩ := bd_ok e
  obtain ⟨da, ρ2, e2, e⟩ := bd_ok e
  obtain ⟨e3, e4⟩ := opt_ok e
  subst e4
  refine ⟨F, ρ, rs, ρ1, s, e1, fun F1 H1 vs x1 q1 => ?_⟩
  obtain ⟨F2, x2, rpa, _⟩ := frzA_ok x1 q1 e2
  unfold zipD at e3
  split at e3
  · rename_i d1 d2
    obtain ⟨xs, ex, e3⟩ := opt_bind e3
    obtain ⟨ys, ey, e3⟩ := opt_map e3
    cases e3
    match vs, rpa with
    | [v, w], .cons q1 (.cons q2 .nil) =>
      obtain ⟨t, a, us, rfl, h1, r1⟩ := rp_seqX q1 ex
      obtain ⟨u, b, ws, rfl, h2, r2⟩ := rp_seqX q2 ey
      exact ⟨t, u, a, b, us, ws, rfl, h1 _ x2.st.le, h2 _ x2.st.le, k F2 H1 F2 _ x2 unlNone x2.st.le (fun b nb i z => nb (x2.st.held (.inl z)).1) (itok_zip h1 h2 r1 r2)⟩
  · cases e3
theorem izip {X : Cx} {e e2 : Expr} {fa : M (List Rs)} {p pos tpos : Pos} {elts : List Expr} {kk : Nat} (hg : Gl X "zip") (hm : X.mg "zip" = none) (ha : PA X [e, e2] (tSemA X.K fa))
    (hs : starEach [e, e2] X.env = (false, eval e X.env) :: starEach [e2] X.env := by rfl) (hpl : (backTo pos (starEach [e2] X.env)).any (·.1) = false := by rfl) :
    PI X (.Tuple elts kk tpos) (.Call (.Name "zip" p) [e, e2] [] pos) (tSemI X.K (dZip fa)) := piWeak (pi_zipX hg hm ha hs hpl) sem_zip
end
theorem wM_zip {ρ : List Sl} {f : M (List Rs)} {Q : Wk → List Sl → Prop} : wM (dZip f) ρ Q = wM f ρ fun rs ρ1 => wM (frzA rs) ρ1 fun ds ρ2 => wO (zipD ds) fun p => Q p ρ2 := by
  simp only [wM_def, wO_def]; unfold dZip; simp only [vM_bd, vM_opt]
theorem zipD_ll {xs ys : List D} : zipD [.list xs, .list ys] = some (zipP xs ys, none) := rfl
theorem zipD_tl {xs ys : List D} : zipD [.tuple xs, .list ys] = some (zipP xs ys, none) := rfl
theorem zipD_lt {xs ys : List D} : zipD [.list xs, .tuple ys] = some (zipP xs ys, none) := rfl
theorem zipD_tt {xs ys : List D} : zipD [.tuple xs, .tuple ys] = some (zipP xs ys, none) := rfl
end DL
namespace DL
open PySem PySem.Spec PyProof.Rows L2
theorem cgs {X : Cx} {x v : Str} {pos : Pos} (hg : Gl X x) (h : ∃ u, X.mg x = some u ∧ RelV (.str v) u) (hd : (x == ("__debug__" : Str)) = false := by decide) : PE X (.Name x pos) (tSem X.K (dC (.str v))) := by
  obtain ⟨u, hm, r⟩ := h
  exact cg hg hm r (fun _ _ => .str v) hd
end DL

namespace DL
open PySem L2
section
variable {ρ : List Sl}
theorem wM_wkS {fa : M Rs} {fl fh : M (Option Int)} {Q : Wk → List Sl → Prop} : wM (dWk (dSl fa fl fh)) ρ Q = wM (dSl fa fl fh) ρ fun r ρ1 => wM (dWk (pr r)) ρ1 Q := wM_wkE
theorem wM_wk1 {g : D → Option Rs} {fa : M Rs} {Q : Wk → List Sl → Prop} : wM (dWk (dOp1 g fa)) ρ Q = wM (dOp1 g fa) ρ fun r ρ1 => wM (dWk (pr r)) ρ1 Q := wM_wkE
theorem wM_wkLc {own : List Nat} {w : M Wk} {g : DG} {tt : M Bool} {te : M Rs} {Q : Wk → List Sl → Prop} : wM (dWk (dLc own w g tt te)) ρ Q = wM (dLc own w g tt te) ρ fun r ρ1 => wM (dWk (pr r)) ρ1 Q := wM_wkE
theorem wM_wkIf {c : M Bool} {a b : M Rs} {Q : Wk → List Sl → Prop} : wM (dWk (dIfE c a b)) ρ Q = wM (dIfE c a b) ρ fun r ρ1 => wM (dWk (pr r)) ρ1 Q := wM_wkE
theorem wM_wkLR {w : M (Int × Int)} {Q : Wk → List Sl → Prop} : wM (dWk (dLRg w)) ρ Q = wM (dLRg w) ρ fun r ρ1 => wM (dWk (pr r)) ρ1 Q := wM_wkE
theorem cutD_d1 {xs : List D} : cutD xs (some 1) none = xs.drop 1 := cutD_drop (k := 1)
theorem cutD_t1 {xs : List D} : cutD xs none (some 1) = xs.take 1 := cutD_take (k := 1)
theorem gIx_tz {xs : List D} {d : D} : gIx (.tuple (xs ++ [d])) (.int (-1)) = some (.fz d) := by
  show (atI (xs ++ [d]) (-1)).map _ = _
  rw [atI_last]; rfl
end
end DL

namespace DL
open PySem PySem.Spec PyProof.Rows L2
/-! ### set(..) of a list of ints, sorted -/
def set0 (w : World) : Obj := { cls := .type "set", dict := none, data := .set #[] 0 (.fresh 0 0 (!w.params.followText "set-order")) }
section
variable {P : Program} {w : World} {A : Around} {E : Value → Shared → Prop} {s : Shared}
set_option maxRecDepth 100000 in
set_option maxHeartbeats 3200000 in
theorem call_setL {l : Addr} {xs : Array Value} (ns : List Int) {Q : Value → Shared → Prop} (hh : A.handled = none) (hl : s.heap.IsList l xs) (hx : IntsAre xs.toList ns) (hb : ns.length + 1 < scanBound)
    (h : ∀ (g : Heap) (tk c : Nat), SetR w g s.heap.objs.size (fun j => decide (j ∈ ns)) c → c ≤ ns.length → (∀ b o, s.heap.get? b = some o → g.get? b = some o) → Q (.ref s.heap.objs.size) { s with heap := g, toks := tk }) :
    wpAny (model P w) A (call (.type "set") [.ref l]) Q E s := by
  have sz : xs.size = ns.length := by have := hx.length; rwa [Array.length_toList] at this
  obtain ⟨c0, t0, mro0⟩ := F.called_set.mro
  have made0 := F.called_set.made
  have sub0 := F.called_set.sub
  refine wpAny_call (codeAny_of_tree ?_)
  show wpAny _ _ (callAny (.type "set") _) _ _ _
  refine wpAny_pure ⟨Code.quiet_builtin _ (by decide +kernel), codeAny_builtin F.entry_type_call ?_⟩
  rw [Around.under_plain (weight_type_call_type "set" [.ref l] []) rfl]
  have n1 := F.called_set.notType
  have n2 := F.called_set.canCreate
  have n3 := F.typeCall_set_1 (.ref l)
  repeat (any_goals (first | assumption | wp_step))
  refine codeAny_mono (code_set_led1 (.ref l) (E := E) (Q₁ := fun v s1 => v = .ref s.heap.objs.size ∧ s1 = { s with heap := s.heap.push (set0 w) }) ⟨rfl, rfl⟩) fun r s1 hr => ?_
  cases r with
  | error e => exact hr
  | ok fl =>
    cases fl with
    | ret v =>
      obtain ⟨rfl, rfl⟩ := hr
      have gS : (s.heap.push (set0 w)).get? s.heap.objs.size = some (set0 w) := Heap.get?_push_size _ rfl
      have tS : Shared.TypeIs { s with heap := s.heap.push (set0 w) } (.ref s.heap.objs.size) "set" := ⟨_, gS, rfl⟩
      have i1 := F.called_set.init.lookup
      have i2 := F.called_set.init.bind (.ref s.heap.objs.size)
      repeat (any_goals (first | assumption | wp_step))
      refine codeAny_mono (codeAny_call_builtin (R := wants (fun r s2 => r = .none ∧ ∃ g tk c, s2 = { s with heap := g, toks := tk } ∧ SetR w g s.heap.objs.size (fun j => decide (j ∈ ns)) c ∧ c ≤ ns.length ∧ (∀ b o, s.heap.get? b = some o → g.get? b = some o)) E) F.called_set.init.plain F.entry_set_init (check_set_init_1 tS ?_)) fun r2 s2 hr2 => ?_
      · obtain ⟨o1, h1, hc1, ne1, hd1⟩ := hl
        obtain ⟨oc, od, oda, osl⟩ := o1
        simp only at hc1 hd1
        subst hc1; subst hd1
        have h1' : (s.heap.push (set0 w)).get? l = some { cls := .type "list", dict := od, data := .seq xs ne1, slots := osl } := Heap.get?_push_of_some _ h1
        have k1 := F.sub_list_set
        have k2 := F.sub_list_frozenset
        have k3 : (Value.type "list" == Value.type "dict") = false := by decide
        have hl1 : (s.heap.push (set0 w)).IsList l xs := ⟨_, h1', rfl, ne1, rfl⟩
        unfold Builtin.«set.__init__» noKeywords Builtin.Frozenset.updateFrom
        generalize hPI : pyIter = PI
        wp_walk
        subst hPI
        refine wpAny_pyIter_list hl1 (wpAny_bind (wpAny_runValue ?_))
        have lt0 : l < s.heap.objs.size := Heap.lt_size h1
        have hh3 : A.in1.in1.in1.handled = none := by simp [hh]
        have sz1 : (s.heap.push (set0 w)).objs.size = s.heap.objs.size + 1 := Heap.size_push ..
        have apart1 : l ≠ (s.heap.push (set0 w)).objs.size := by rw [sz1]; exact Nat.ne_of_lt (Nat.lt_succ_of_lt lt0)
        have apart2 : s.heap.objs.size ∉ [(s.heap.push (set0 w)).objs.size, l] := by
          rw [sz1]; simp only [List.mem_cons, List.mem_singleton, List.not_mem_nil, or_false, not_or]
          exact ⟨Nat.ne_of_lt (Nat.lt_succ_self _), Nat.ne_of_gt lt0⟩
        have val : ∀ (i : Nat) (v : Value), xs[i]? = some v → ∃ k t, ns[i]? = some k ∧ v = .int k t := fun i v hv => by
          have hi : i < ns.length := by rw [← sz]; exact (Array.getElem?_eq_some_iff.mp hv).1
          obtain ⟨t, e⟩ := IntsAre.int_at hx i v (by rw [Array.getElem?_toList]; exact hv)
          exact ⟨ns[i], t, List.getElem?_eq_getElem hi, by rw [e, List.getD_eq_getElem?_getD, List.getElem?_eq_getElem hi] <;> rfl⟩
        refine set_update_ints ((Walks.list hh3 _ l apart1 xs).toS) s.heap.objs.size apart2 ns sz hb val (xs.size - 0) 0 _ (by omega) (Nat.zero_le _) ⟨⟨_, Heap.get?_push_size _ rfl, rfl, rfl⟩, (hl1.push _)⟩ ?z1 ?z2
        case z1 => exact ⟨0, Nat.le_refl 0, setR_new_at (Heap.get?_push_of_some _ gS)⟩
        case z2 =>
          intro s3 c3 hm le3 hS3
          obtain ⟨g3, gn3, d3, tk3, os3⟩ := s3
          have e1 : gn3 = s.gens := hm.gens
          have e2 : d3 = s.drawn := hm.drawn
          have e3 : os3 = s.os := hm.os
          subst e1; subst e2; subst e3
          show wpAny _ _ _ _ _ _
          refine wpAny_pure ?_
          show wpAny _ _ (ret Value.none) _ _ _
          rw [sz] at le3
          refine wpAny_pure ⟨rfl, g3, tk3, c3, rfl, hS3, le3, fun b o e => ?_⟩
          have b0 : b < s.heap.objs.size := Heap.lt_size e
          refine hm.heap b o ?_ (Heap.get?_push_of_some _ (Heap.get?_push_of_some _ e))
          rw [sz1]
          simp only [List.mem_cons, List.mem_singleton, List.not_mem_nil, or_false, not_or]
          exact ⟨Nat.ne_of_lt b0, Nat.ne_of_lt (Nat.lt_succ_of_lt b0)⟩
      · cases r2 with
        | error e => exact hr2
        | ok fl2 =>
          cases fl2 with
          | ret r =>
            obtain ⟨rfl, g, tk, c, rfl, a1, a2, a3⟩ := hr2
            repeat (any_goals (first | assumption | wp_step))
            exact h _ _ _ a1 a2 a3
          | _ => exact hr2.elim
    | _ => exact hr.elim
end
section
variable {X : Cx}
def rSetI (K : PySem.W.Frag) (w : World) : List V → Hp → VK → Prop := fun xs H Q => ∃ (l : Addr) (ns : List Int), xs = [.ref l] ∧ SqL K H l (ns.map V.int) ∧ ns.length < 64 ∧ ∀ p c, H p = none → c ≤ ns.length → Q (.ref p) (upd H p (SetO w p (fun j => decide (j ∈ ns)) c))
theorem cr_setI (hc : X.calm = true) : CallR X (.type "set") (rSetI X.K X.w) := by
  intro pins s σ H xs us Q I r ⟨l, ns, ex, hl, h64, q⟩
  subst ex
  obtain ⟨u, rfl, rx⟩ := vals1 r
  cases rx
  obtain ⟨its, rv, pl, _⟩ := I.list hl
  refine call_setL ns (I.ok.hd hc) pl.isList (by simpa using RZ.intsAre_vals rv) (by unfold scanBound; omega) fun g tk c hR hle hk => ?_
  exact ⟨.ref _, upd H s.heap.objs.size (SetO X.w s.heap.objs.size (fun j => decide (j ∈ ns)) c), I.laid (t' := tk) hk (Nat.le_refl _) (setO_new hR), rfl, q _ _ (I.hok.fresh (Nat.le_refl _)) hle⟩
end
/-- the members, each once, upward -/
def insU (x : Int) : List Int → List Int
  | [] => [x]
  | y :: ys => if x < y then x :: y :: ys else if x = y then y :: ys else y :: insU x ys
def sortU (ns : List Int) : List Int := ns.foldr insU []
theorem insU_mem {x k : Int} : ∀ {ys : List Int}, k ∈ insU x ys ↔ k = x ∨ k ∈ ys
  | [] => by simp [insU]
  | y :: ys => by
    unfold insU
    split
    · simp
    · split
      · rename_i h; subst h; simp
      · rw [List.mem_cons, insU_mem, List.mem_cons]
        constructor <;> (intro h; rcases h with h | h | h <;> simp [h])
theorem insU_strict {x : Int} : ∀ {ys : List Int}, ys.Pairwise (· < ·) → (insU x ys).Pairwise (· < ·)
  | [], _ => by simp [insU]
  | y :: ys, h => by
    have h' := List.pairwise_cons.mp h
    unfold insU
    split
    · rename_i hx
      exact List.pairwise_cons.mpr ⟨fun z hz => by
        rcases List.mem_cons.mp hz with q | q
        · subst q; exact hx
        · have := h'.1 z q; omega, h⟩
    · split
      · exact h
      · exact List.pairwise_cons.mpr ⟨fun z hz => by
          rcases insU_mem.mp hz with q | q
          · subst q; omega
          · exact h'.1 z q, insU_strict h'.2⟩
theorem sortU_mem {ns : List Int} {k : Int} : k ∈ sortU ns ↔ k ∈ ns := by
  unfold sortU
  induction ns with
  | nil => simp
  | cons n ns ih => rw [List.foldr_cons, insU_mem, ih, List.mem_cons]
theorem sortU_strict (ns : List Int) : (sortU ns).Pairwise (· < ·) := by
  unfold sortU
  induction ns with
  | nil => simp
  | cons n ns ih => exact insU_strict ih
theorem strict_eq : ∀ {xs ys : List Int}, xs.Pairwise (· < ·) → ys.Pairwise (· < ·) → (∀ k, k ∈ xs ↔ k ∈ ys) → xs = ys
  | [], [], _, _, _ => rfl
  | [], y :: ys, _, _, h => by have := (h y).mpr (by simp); cases this
  | x :: xs, [], _, _, h => by have := (h x).mp (by simp); cases this
  | x :: xs, y :: ys, h1, h2, h => by
    rw [List.pairwise_cons] at h1 h2
    have e : x = y := by
      rcases List.mem_cons.mp ((h x).mp (by simp)) with q | q
      · exact q
      · rcases List.mem_cons.mp ((h y).mpr (by simp)) with q' | q'
        · exact q'.symm
        · have := h2.1 x q; have := h1.1 y q'; omega
    subst e
    congr 1
    refine strict_eq h1.2 h2.2 fun k => ⟨fun hk => ?_, fun hk => ?_⟩
    · have := h1.1 k hk
      rcases List.mem_cons.mp ((h k).mp (by simp [hk])) with q | q
      · omega
      · exact q
    · have := h2.1 k hk
      rcases List.mem_cons.mp ((h k).mpr (by simp [hk])) with q | q
      · omega
      · exact q
def gSS : List D → Option Rs
  | [.list ds] => (intsOf ds).bind fun ns => if ns.length < 64 then some (.ow (.list ((sortU ns).map .int))) else none
  | _ => none
def dSS (f : M (List Rs)) : M Rs := dB gSS f
section
variable {K : PySem.W.Frag}
theorem sem_ss {w : World} {f : M (List Rs)} : ∀ σ H Q, tSem K (dSS f) σ H Q → tCB (rSortedSet w) (tCons (tCB (rSetI K w) (tSemA K f)) tNil) σ H Q := fun σ H Q ⟨F, ρ, res, ρ', s, e, k⟩ => by
  obtain ⟨rs, ρ1, e1, e⟩ := bd_ok e
  obtain ⟨ds, ρ3, e3, e⟩ := bd_ok e
  obtain ⟨eg, e5⟩ := opt_ok e
  refine ⟨F, ρ, rs, ρ1, s, e1, fun F1 H1 vs x1 q1 => ?_⟩
  obtain ⟨e3', w1⟩ := lookA_ok x1.st q1 e3
  subst e3'; subst e5
  unfold gSS at eg
  split at eg
  · obtain ⟨ns, en, eg⟩ := opt_bind eg
    split at eg
    case isFalse => cases eg
    case isTrue h64 =>
      cases eg
      obtain ⟨x, rfl, hw⟩ := w1.one
      rw [intsOf_ok en] at hw
      obtain ⟨a, us, rfl, h1, r1⟩ := hw.list x1.st.le
      rw [r1.ints] at h1
      refine ⟨a, ns, rfl, .inl h1, h64, fun p c hp hc => ⟨p, _, c, rfl, upd_same, by omega, fun ms p' hs hm _ hp' => ?_⟩⟩
      have hne : p' ≠ p := fun z => by rw [z, upd_same] at hp'; cases hp'
      rw [upd_ne hne] at hp'
      have em : ms = sortU ns := strict_eq hs (sortU_strict ns) fun j => by rw [hm j, decide_eq_true_eq, sortU_mem]
      subst em
      have f1 : F1 p = none := x1.st.le.free hp
      have f2 : F1 p' = none := x1.st.le.free hp'
      have g : Grow F1 H1 F1 (upd (upd H1 p (SetO w p (fun j => decide (j ∈ ns)) c)) p' (.lst ((sortU ns).map V.int))) := by
        have k1 : Same H1 (upd H1 p (SetO w p (fun j => decide (j ∈ ns)) c)) := same_upd hp
        have k2 : Same (upd H1 p (SetO w p (fun j => decide (j ∈ ns)) c)) (upd (upd H1 p (SetO w p (fun j => decide (j ∈ ns)) c)) p' (.lst ((sortU ns).map V.int))) := same_upd (by rw [upd_ne hne]; exact hp')
        exact ⟨Same.refl _, x1.st.le.trans (k1.trans k2), k1.trans k2, fun _ _ e => e⟩
      refine k F1 _ _ (x1.trans (x1.st.grow g)) (x1.st.res g (r := .ow (.list ((sortU ns).map .int))) ⟨p', rfl, hp', f2, _, upd_same, RpA.of_ints _⟩ fun a z => x1.back z)
  · cases eg
theorem ess {X : Cx} {e : Expr} {f : M (List Rs)} {p1 p2 q pos : Pos} (hc : X.calm = true) (hg : Gl X "sorted") (hm : X.mg "sorted" = none) (hg2 : Gl X "set") (hm2 : X.mg "set" = none) (ha : PA X [e] (tSemA X.K f))
    (na : starEach [e] X.env = (false, eval e X.env) :: starEach [] X.env := by rfl) (nb : starEach [.Call (.Name "set" p2) [e] [] q] X.env = (false, eval (.Call (.Name "set" p2) [e] [] q) X.env) :: starEach [] X.env := by rfl) :
    PE X (.Call (.Name "sorted" p1) [.Call (.Name "set" p2) [e] [] q] [] pos) (tSem X.K (dSS f)) :=
  peWeak (pe_callB (cr_sortedSet hc) hg hm (by rfl) (pa_cons (pe_callTy (cr_setI hc) hg2 hm2 (by rfl) ha (by decide) (by decide) na (by rfl)) pa_nil nb) (by decide) (by decide) nb (by rfl)) sem_ss
end
theorem gSS_l {ns : List Int} (h : ns.length < 64) : gSS [.list (ns.map .int)] = some (.ow (.list ((sortU ns).map .int))) := by
  show (intsOf (ns.map .int)).bind _ = _
  rw [intsOf_map]; exact if_pos h
end DL

namespace Lawk39
open PySem PySem.Spec PyProof.Rows L2 DL
def topS (i : Nat) : Stmt := PySem.Challenge.pw_amendwarrant_k39_steps_of_rates.main.body.getD i (.Pass ⟨0, 0, 0, 0⟩)
section
variable {P : Program} {w : World} {K : PySem.W.Frag} {mg : Str → Option Value} {base : Heap}
/-! ### _law_draws -/
abbrev s__law_draws : Stmt := topS 9
theorem sc__law_draws : FnScope ["script", "many", "draws", "mixed", "k", "cell", "rest", "turn"] ["script", "many"] (defScope s__law_draws) := ⟨rfl, rfl, rfl, by decide +kernel, rfl, by decide +kernel, by decide +kernel⟩
def b__law_draws : DS :=
 (dSeq (dSet 2 (dLst dNil))
 (dSeq (dSet 3 (dC (.int 7)))
 (dSeq (dFor (dRng1 (dCons (dB gLen (dCons (dVar 0) dNil)) dNil)) (gN 4)
 ((dSeq (dSet 5 (dB gAbs (dCons (dB gInt (dCons (dOp2 gIx (dVar 0) (dVar 4)) dNil)) dNil)))
 (dSeq (dSet 3 (dOp2 gMod (dB gInt (dCons (dOp2 gAdd (dOp2 gAdd (dOp2 gMul (dVar 3) (dC (.int 48271))) (dOp2 gMod (dVar 5) (dC (.int 1000003)))) (dVar 4)) dNil)) (dC (.int 65537))))
 (dSeq (dSet 6 (dC (.int 0)))
 (dSeq (dIf (dOp2T gGe (dVar 5) (dOp2 gPow (dC (.int 10)) (dC (.int 18))))
 ((dSet 6 (dVar 5)))
 ((dSeq (dDrop (dMut 2 isLst true gAppend (dCons (dOp2 gMod (dB gInt (dCons (dVar 5) dNil)) (dC (.int 997))) dNil)))
 (dDrop (dMut 2 isLst true gAppend (dCons (dOp2 gMod (dOp2 gMod (dB gInt (dCons (dOp2 gAdd (dOp2 gMul (dVar 3) (dC (.int 69621))) (dC (.int 5))) dNil)) (dC (.int 65521))) (dC (.int 997))) dNil))))))
 (dFor (dRng1 (dCons (dC (.int 60)) dNil)) (gN 7)
 ((dIf (dOp2T gGt (dVar 6) (dC (.int 0)))
 ((dSeq (dDrop (dMut 2 isLst true gAppend (dCons (dOp2 gMod (dB gInt (dCons (dVar 6) dNil)) (dC (.int 997))) dNil)))
 (dSet 6 (dOp2 gDiv (dVar 6) (dC (.int 997))))))
 (dPass))))))))))
 (dSeq (dFor (dRng1 (dCons (dVar 1) dNil)) (gN 4)
 ((dSeq (dSet 3 (dOp2 gMod (dB gInt (dCons (dOp2 gAdd (dOp2 gAdd (dOp2 gMul (dVar 3) (dC (.int 16807))) (dVar 4)) (dC (.int 1))) dNil)) (dC (.int 65537))))
 (dDrop (dMut 2 isLst true gAppend (dCons (dOp2 gMod (dB gInt (dCons (dVar 3) dNil)) (dC (.int 997))) dNil))))))
 (dRet (dSl (dVar 2) dNoP (dPart (dVar 1))))))))
def f__law_draws : M Rs := runDef [true, true] 8 b__law_draws
theorem ok__law_draws {f : Addr} {fd : FuncData} (F : Fun K "_law_draws" "_law_draws" s__law_draws f fd) (m_range : mg "range" = none) (m_len : mg "len" = none) (m_abs : mg "abs" = none) (m_int : mg "int" = none) : FnOk P w K mg base CX0 1 f fd ["script", "many"] (spD K 2 f__law_draws) := by
  have nd := sc__law_draws.nd
  have h := fun_ok (P := P) (w := w) (K := K) (mg := mg) (base := base) (N := ["script", "many", "draws", "mixed", "k", "cell", "rest", "turn"]) (ps := ["script", "many"]) (ms := [true, true]) (body := b__law_draws) (k := 0) F sc__law_draws rfl (fun cdv A outer s H E hr =>
  (sc (sset (by decide) nd rfl (by first | exact .inl rfl | exact .inr rfl) (el an))
 (sc (sset (by decide) nd rfl (by first | exact .inl rfl | exact .inr rfl) ci)
 (sc (sfor PassesOwn.never rfl (ir1 (by rfl) m_range (ac (eB cLen (by rfl) m_len (by rfl) (ac (pv' 0) an)) an)) (gn (by decide) nd rfl (by first | exact .inl rfl | exact .inr rfl))
 (sc (sset (by decide) nd rfl (by first | exact .inl rfl | exact .inr rfl) (eB cAbs (by rfl) m_abs (by rfl) (ac (eTy cInt (by rfl) m_int (by rfl) (ac (eix (u1 hr) (pv' 0) (pv' 4)) an)) an)))
 (sc (sset (by decide) nd rfl (by first | exact .inl rfl | exact .inr rfl) (e2 oMod (eTy cInt (by rfl) m_int (by rfl) (ac (e2 oAdd (e2 oAdd (e2 oMul (pv' 3) ci) (e2 oMod (pv' 5) ci)) (pv' 4)) an)) ci))
 (sc (sset (by decide) nd rfl (by first | exact .inl rfl | exact .inr rfl) ci)
 (sc (sif (tcmp (oGe (u64 hr)) (pv' 5) (e2 oPow ci ci))
 (s1 (sset (by decide) nd rfl (by first | exact .inl rfl | exact .inr rfl) (pv' 5)))
 (sc (sex (emut PySem.F.plainAttrs_list PySem.F.slot_list_append PySem.F.type_list_append mt_append ty_lst m_append (pv 2) (ac (e2 oMod (eTy cInt (by rfl) m_int (by rfl) (ac (pv' 5) an)) ci) an)))
 (s1 (sex (emut PySem.F.plainAttrs_list PySem.F.slot_list_append PySem.F.type_list_append mt_append ty_lst m_append (pv 2) (ac (e2 oMod (e2 oMod (eTy cInt (by rfl) m_int (by rfl) (ac (e2 oAdd (e2 oMul (pv' 3) ci) ci) an)) ci) ci) an))))))
 (s1 (sfor PassesOwn.never rfl (ir1 (by rfl) m_range (ac ci an)) (gn (by decide) nd rfl (by first | exact .inl rfl | exact .inr rfl))
 (s1 (sif (tcmp (oGt (u64 hr)) (pv' 6) ci)
 (sc (sex (emut PySem.F.plainAttrs_list PySem.F.slot_list_append PySem.F.type_list_append mt_append ty_lst m_append (pv 2) (ac (e2 oMod (eTy cInt (by rfl) m_int (by rfl) (ac (pv' 6) an)) ci) an)))
 (s1 (sset (by decide) nd rfl (by first | exact .inl rfl | exact .inr rfl) (e2 oDiv (pv' 6) ci))))
 sn)))))))))
 (sc (sfor PassesOwn.never rfl (ir1 (by rfl) m_range (ac (pv' 1) an)) (gn (by decide) nd rfl (by first | exact .inl rfl | exact .inr rfl))
 (sc (sset (by decide) nd rfl (by first | exact .inl rfl | exact .inr rfl) (e2 oMod (eTy cInt (by rfl) m_int (by rfl) (ac (e2 oAdd (e2 oAdd (e2 oMul (pv' 3) ci) (pv' 4)) ci) an)) ci))
 (s1 (sex (emut PySem.F.plainAttrs_list PySem.F.slot_list_append PySem.F.type_list_append mt_append ty_lst m_append (pv 2) (ac (e2 oMod (eTy cInt (by rfl) m_int (by rfl) (ac (pv' 3) an)) ci) an))))))
 (s1 (sret (esl (pv' 2) pn (pp (pv' 1))))))))))
  exact h
/-! ### _law_next -/
abbrev s__law_next : Stmt := topS 10
theorem sc__law_next : FnScope ["w", "many"] ["w", "many"] (defScope s__law_next) := ⟨rfl, rfl, rfl, by decide +kernel, rfl, by decide +kernel, by decide +kernel⟩
def b__law_next : DS :=
 (dSeq (dAugS gIAdd 0 (dC (.str "at")) (dC (.int 1)))
 (dSeq (dIf (dOp2T gGt (dOp2 gIx (dVar 0) (dC (.str "at"))) (dB gLen (dCons (dOp2 gIx (dVar 0) (dC (.str "draws"))) dNil)))
 ((dRet (dC (.int 0))))
 (dPass))
 (dRet (dOp2 gMod (dB gInt (dCons (dOp2 gIx (dOp2 gIx (dVar 0) (dC (.str "draws"))) (dOp2 gSub (dOp2 gIx (dVar 0) (dC (.str "at"))) (dC (.int 1)))) dNil)) (dVar 1)))))
def f__law_next : M Rs := runDef [true, true] 2 b__law_next
theorem ok__law_next {f : Addr} {fd : FuncData} (F : Fun K "_law_next" "_law_next" s__law_next f fd) (m_len : mg "len" = none) (m_int : mg "int" = none) : FnOk P w K mg base CX0 1 f fd ["w", "many"] (spD K 2 f__law_next) := by
  have nd := sc__law_next.nd
  have h := fun_ok (P := P) (w := w) (K := K) (mg := mg) (base := base) (N := ["w", "many"]) (ps := ["w", "many"]) (ms := [true, true]) (body := b__law_next) (k := 0) F sc__law_next rfl (fun cdv A outer s H E hr =>
  (sc (saugs (u1 hr) pAdd (pv 0) cs ci)
 (sc (sif (tcmp (oGt (u64 hr)) (eix (u1 hr) (pv' 0) cs) (eB cLen (by rfl) m_len (by rfl) (ac (eix (u1 hr) (pv' 0) cs) an)))
 (s1 (sret ci))
 sn)
 (s1 (sret (e2 oMod (eTy cInt (by rfl) m_int (by rfl) (ac (eix (u1 hr) (eix (u1 hr) (pv' 0) cs) (e2 oSub (eix (u1 hr) (pv' 0) cs) ci)) an)) (pv' 1)))))))
  exact h
/-! ### _law_pick -/
abbrev s__law_pick : Stmt := topS 11
theorem sc__law_pick : FnScope ["w", "rows"] ["w", "rows"] (defScope s__law_pick) := ⟨rfl, rfl, rfl, by decide +kernel, rfl, by decide +kernel, by decide +kernel⟩
def b__law_pick : DS :=
 (dRet (dOp2 gIx (dVar 1) (dCall [true, true] f__law_next (dCons (dVar 0) (dCons (dB gLen (dCons (dVar 1) dNil)) dNil)))))
def f__law_pick : M Rs := runDef [true, true] 2 b__law_pick
theorem ok__law_pick {f : Addr} {fd : FuncData} (F : Fun K "_law_pick" "_law_pick" s__law_pick f fd) {f_a__law_next : Addr} {d__law_next : FuncData} (G__law_next : FnOk P w K mg base CX0 1 f_a__law_next d__law_next ["w", "many"] (spD K 2 f__law_next)) (g__law_next : mg "_law_next" = some (.ref f_a__law_next)) (k__law_next : PySem.W.keepIn K (.ref f_a__law_next) = true) (i__law_next : Binds K d__law_next ["w", "many"] []) (m_len : mg "len" = none) : FnOk P w K mg base CX0 2 f fd ["w", "rows"] (spD K 2 f__law_pick) := by
  have nd := sc__law_pick.nd
  have h := fun_ok (P := P) (w := w) (K := K) (mg := mg) (base := base) (N := ["w", "rows"]) (ps := ["w", "rows"]) (ms := [true, true]) (body := b__law_pick) (k := 1) F sc__law_pick rfl (fun cdv A outer s H E hr =>
  (s1 (sret (eix (u1 hr) (pv' 1) (ecall G__law_next (hr.mono (by omega)) (by rfl) g__law_next k__law_next i__law_next rfl (ac (pv' 0) (ac (eB cLen (by rfl) m_len (by rfl) (ac (pv' 1) an)) an)))))))
  exact h
/-! ### _law_table -/
abbrev s__law_table : Stmt := topS 13
theorem sc__law_table : FnScope ["w", "found", "begin", "k"] ["w"] (defScope s__law_table) := ⟨rfl, rfl, rfl, by decide +kernel, rfl, by decide +kernel, by decide +kernel⟩
def b__law_table : DS :=
 (dSeq (dPar [1, 2] (dCons (dLst dNil) (dCons (dC (.int 0)) dNil)))
 (dSeq (dFor (dRng1 (dCons (dOp2 gAdd (dC (.int 1)) (dCall [true, true] f__law_next (dCons (dVar 0) (dCons (dC (.int 5)) dNil)))) dNil)) (gN 3)
 ((dSeq (dDrop (dMut 1 isLst true gAppend (dCons (dTup (dCons (dVar 2) (dCons (dCall [true, true] f__law_pick (dCons (dVar 0) (dCons (dLst (dCons (dC (.int 0)) (dCons (dC (.int 10)) (dCons (dC (.int 10)) (dCons (dC (.int 20)) (dCons (dC (.int 45)) (dCons (dC (.int 99)) (dCons (dCall [true, true] f__law_next (dCons (dVar 0) (dCons (dC (.int 100)) dNil))) dNil)))))))) dNil))) dNil))) dNil)))
 (dAug gIAdd 2 (dOp2 gAdd (dC (.int 1)) (dCall [true, true] f__law_next (dCons (dVar 0) (dCons (dC (.int 12)) dNil))))))))
 (dRet (dB gTuple (dCons (dVar 1) dNil)))))
def f__law_table : M Rs := runDef [true] 4 b__law_table
theorem ok__law_table {f : Addr} {fd : FuncData} (F : Fun K "_law_table" "_law_table" s__law_table f fd) {f_a__law_next : Addr} {d__law_next : FuncData} (G__law_next : FnOk P w K mg base CX0 1 f_a__law_next d__law_next ["w", "many"] (spD K 2 f__law_next)) (g__law_next : mg "_law_next" = some (.ref f_a__law_next)) (k__law_next : PySem.W.keepIn K (.ref f_a__law_next) = true) (i__law_next : Binds K d__law_next ["w", "many"] []) {f_a__law_pick : Addr} {d__law_pick : FuncData} (G__law_pick : FnOk P w K mg base CX0 2 f_a__law_pick d__law_pick ["w", "rows"] (spD K 2 f__law_pick)) (g__law_pick : mg "_law_pick" = some (.ref f_a__law_pick)) (k__law_pick : PySem.W.keepIn K (.ref f_a__law_pick) = true) (i__law_pick : Binds K d__law_pick ["w", "rows"] []) (m_range : mg "range" = none) (m_tuple : mg "tuple" = none) : FnOk P w K mg base CX0 3 f fd ["w"] (spD K 1 f__law_table) := by
  have nd := sc__law_table.nd
  have h := fun_ok (P := P) (w := w) (K := K) (mg := mg) (base := base) (N := ["w", "found", "begin", "k"]) (ps := ["w"]) (ms := [true]) (body := b__law_table) (k := 2) F sc__law_table rfl (fun cdv A outer s H E hr =>
  (sc (spar (by decide) (by decide) rfl nd rfl rfl (by decide) rfl rfl (ac (el an) (ac ci an)))
 (sc (sfor PassesOwn.never rfl (ir1 (by rfl) m_range (ac (e2 oAdd ci (ecall G__law_next (hr.mono (by omega)) (by rfl) g__law_next k__law_next i__law_next rfl (ac (pv' 0) (ac ci an)))) an)) (gn (by decide) nd rfl (by first | exact .inl rfl | exact .inr rfl))
 (sc (sex (emut PySem.F.plainAttrs_list PySem.F.slot_list_append PySem.F.type_list_append mt_append ty_lst m_append (pv 1) (ac (et (ac (pv' 2) (ac (ecall G__law_pick (hr.mono (by omega)) (by rfl) g__law_pick k__law_pick i__law_pick rfl (ac (pv' 0) (ac (el (ac ci (ac ci (ac ci (ac ci (ac ci (ac ci (ac (ecall G__law_next (hr.mono (by omega)) (by rfl) g__law_next k__law_next i__law_next rfl (ac (pv' 0) (ac ci an))) an)))))))) an))) an))) an)))
 (s1 (saug (by decide) pAdd nd rfl (by first | exact .inl rfl | exact .inr rfl) (e2 oAdd ci (ecall G__law_next (hr.mono (by omega)) (by rfl) g__law_next k__law_next i__law_next rfl (ac (pv' 0) (ac ci an))))))))
 (s1 (sret (eTy cTuple (by rfl) m_tuple (by rfl) (ac (pv' 1) an)))))))
  exact h
/-! ### _law_alike -/
abbrev s__law_alike : Stmt := topS 12
theorem sc__law_alike : FnScope ["given", "due", "k"] ["given", "due"] (defScope s__law_alike) := ⟨rfl, rfl, rfl, by decide +kernel, rfl, by decide +kernel, by decide +kernel⟩
def b__law_alike (self : M Rs) : DS :=
 (dSeq (dIf (dTru (dIsi .tuple (dVar 1)))
 ((dSeq (dIf (dOr (dNot (dTru (dIsi .tuple (dVar 0)))) (dOp2T gNe (dB gLen (dCons (dVar 0) dNil)) (dB gLen (dCons (dVar 1) dNil))))
 ((dRet (dC (.bool false))))
 (dPass))
 (dRet (dOp2 (gB gEq) (dLc [2] (dRng1 (dCons (dB gLen (dCons (dVar 1) dNil)) dNil)) (gN 2) (dNot (dTru (dCall [true, true] self (dCons (dOp2 gIx (dVar 0) (dVar 2)) (dCons (dOp2 gIx (dVar 1) (dVar 2)) dNil))))) (dVar 2)) (dLst dNil)))))
 (dPass))
 (dSeq (dIf (dOp2T gIs (dVar 1) (dC .none))
 ((dRet (dOp2 (gB gIs) (dVar 0) (dC .none))))
 (dPass))
 (dSeq (dIf (dTru (dIsi .bool (dVar 1)))
 ((dRet (dAndV (dIsi .bool (dVar 0)) (dOp2 (gB gEq) (dVar 0) (dVar 1)))))
 (dPass))
 (dSeq (dIf (dTru (dIsi .int (dVar 1)))
 ((dRet (dAndV (dIsi .int (dVar 0)) (dAndV (dNotV (dIsi .bool (dVar 0))) (dOp2 (gB gEq) (dVar 0) (dVar 1))))))
 (dPass))
 (dRet (dAndV (dIsi .str (dVar 0)) (dOp2 (gB gEq) (dVar 0) (dVar 1))))))))
def f__law_alike : Nat → M Rs
  | 0 => fun _ => .bad
  | d + 1 => runDef [true, true] 3 (b__law_alike (f__law_alike d))
theorem ok__law_alike {f : Addr} {fd : FuncData} (F : Fun K "_law_alike" "_law_alike" s__law_alike f fd) (g__law_alike : mg "_law_alike" = some (.ref f)) (i__law_alike : Binds K fd ["given", "due"] []) (m_isinstance : mg "isinstance" = none) (m_tuple : mg "tuple" = none) (m_len : mg "len" = none) (m_range : mg "range" = none) (m_bool : mg "bool" = none) (m_int : mg "int" = none) (m_str : mg "str" = none) : ∀ d, FnOk P w K mg base CX0 (0 + d) f fd ["given", "due"] (spD K 2 (f__law_alike d))
  | 0 => fnok_bad
  | d + 1 => by
    have nd := sc__law_alike.nd
    have G__law_alike := ok__law_alike F g__law_alike i__law_alike m_isinstance m_tuple m_len m_range m_bool m_int m_str d
    have k__law_alike := F.kp
    have h := fun_ok (P := P) (w := w) (K := K) (mg := mg) (base := base) (N := ["given", "due", "k"]) (ps := ["given", "due"]) (ms := [true, true]) (body := b__law_alike (f__law_alike d)) (k := 0 + d) F sc__law_alike rfl (fun cdv A outer s H E hr =>
  (sc (sif (ttr (eisi .tuple (by rfl) m_isinstance (by rfl) m_tuple (by rfl) (pv' 1)))
 (sc (sif (twp (wor (tnot (ttr (eisi .tuple (by rfl) m_isinstance (by rfl) m_tuple (by rfl) (pv' 0)))) (wor1 (tcmp (oNe (u64 hr)) (eB cLen (by rfl) m_len (by rfl) (ac (pv' 0) an)) (eB cLen (by rfl) m_len (by rfl) (ac (pv' 1) an))))))
 (s1 (sret cb))
 sn)
 (s1 (sret (ecmp (oEq (u64 hr)) (lc (own := [("k", 2)]) rfl nd (ir1 (by rfl) m_range (ac (eB cLen (by rfl) m_len (by rfl) (ac (pv' 1) an)) an)) (blkOk_by (by rfl)) (fun _ _ _ _ _ => (gn (by decide) nd rfl (by first | exact .inl rfl | exact .inr rfl))) (fun _ _ _ _ _ => (t1 (tnot (ttr (ecall G__law_alike (hr.mono (by omega)) (by rfl) g__law_alike k__law_alike i__law_alike rfl (ac (eix (u1 hr) (pv' 0) (pv' 2)) (ac (eix (u1 hr) (pv' 1) (pv' 2)) an))))))) (fun _ _ _ _ _ => (pv' 2))) (el an)))))
 sn)
 (sc (sif (tcmp oIs (pv' 1) cn)
 (s1 (sret (ecmp oIs (pv' 0) cn)))
 sn)
 (sc (sif (ttr (eisi .bool (by rfl) m_isinstance (by rfl) m_bool (by rfl) (pv' 1)))
 (s1 (sret (evand (eisi .bool (by rfl) m_isinstance (by rfl) m_bool (by rfl) (pv' 0)) (evone (ecmp (oEq (u64 hr)) (pv' 0) (pv' 1))))))
 sn)
 (sc (sif (ttr (eisi .int (by rfl) m_isinstance (by rfl) m_int (by rfl) (pv' 1)))
 (s1 (sret (evand (eisi .int (by rfl) m_isinstance (by rfl) m_int (by rfl) (pv' 0)) (evand (evnot (eisi .bool (by rfl) m_isinstance (by rfl) m_bool (by rfl) (pv' 0))) (evone (ecmp (oEq (u64 hr)) (pv' 0) (pv' 1)))))))
 sn)
 (s1 (sret (evand (eisi .str (by rfl) m_isinstance (by rfl) m_str (by rfl) (pv' 0)) (evone (ecmp (oEq (u64 hr)) (pv' 0) (pv' 1)))))))))))
    exact h
/-! ### _law_rate -/
abbrev s__law_rate : Stmt := topS 14
theorem sc__law_rate : FnScope ["table", "n", "begin", "rate"] ["table", "n"] (defScope s__law_rate) := ⟨rfl, rfl, rfl, by decide +kernel, rfl, by decide +kernel, by decide +kernel⟩
def b__law_rate : DS :=
 (dRet (dOp2 gIx (dLc [2, 3] (dWk (dVar 0)) (gT 2 (gsC (gN 2) (gsC (gN 3) gsN))) (dOp2T gLe (dVar 2) (dVar 1)) (dVar 3)) (dOp1 gNeg (dC (.int 1)))))
def f__law_rate : M Rs := runDef [true, true] 4 b__law_rate
theorem ok__law_rate {f : Addr} {fd : FuncData} (F : Fun K "_law_rate" "_law_rate" s__law_rate f fd)  : FnOk P w K mg base CX0 1 f fd ["table", "n"] (spD K 2 f__law_rate) := by
  have nd := sc__law_rate.nd
  have h := fun_ok (P := P) (w := w) (K := K) (mg := mg) (base := base) (N := ["table", "n", "begin", "rate"]) (ps := ["table", "n"]) (ms := [true, true]) (body := b__law_rate) (k := 0) F sc__law_rate rfl (fun cdv A outer s H E hr =>
  (s1 (sret (eix (u1 hr) (lc (own := [("begin", 2), ("rate", 3)]) rfl nd (iw (pv' 0)) (blkOk_by (by rfl)) (fun _ _ _ _ _ => (gt rfl (gsc (gn (by decide) nd rfl (by first | exact .inl rfl | exact .inr rfl)) (gsc (gn (by decide) nd rfl (by first | exact .inl rfl | exact .inr rfl)) gsn)))) (fun _ _ _ _ _ => (t1 (tcmp (oLe (u64 hr)) (pv' 2) (pv' 1)))) (fun _ _ _ _ _ => (pv' 3))) (e1 oNeg ci)))))
  exact h
/-! ### _law_owed -/
abbrev s__law_owed : Stmt := topS 15
theorem sc__law_owed : FnScope ["table", "amount", "n"] ["table", "amount"] (defScope s__law_owed) := ⟨rfl, rfl, rfl, by decide +kernel, rfl, by decide +kernel, by decide +kernel⟩
def b__law_owed : DS :=
 (dRet (dB gSum (dCons (dLc [2] (dRng1 (dCons (dVar 1) dNil)) (gN 2) dYes (dCall [true, true] f__law_rate (dCons (dVar 0) (dCons (dVar 2) dNil)))) dNil)))
def f__law_owed : M Rs := runDef [true, true] 3 b__law_owed
theorem ok__law_owed {f : Addr} {fd : FuncData} (F : Fun K "_law_owed" "_law_owed" s__law_owed f fd) {f_a__law_rate : Addr} {d__law_rate : FuncData} (G__law_rate : FnOk P w K mg base CX0 1 f_a__law_rate d__law_rate ["table", "n"] (spD K 2 f__law_rate)) (g__law_rate : mg "_law_rate" = some (.ref f_a__law_rate)) (k__law_rate : PySem.W.keepIn K (.ref f_a__law_rate) = true) (i__law_rate : Binds K d__law_rate ["table", "n"] []) (m_sum : mg "sum" = none) (m_range : mg "range" = none) : FnOk P w K mg base CX0 2 f fd ["table", "amount"] (spD K 2 f__law_owed) := by
  have nd := sc__law_owed.nd
  have h := fun_ok (P := P) (w := w) (K := K) (mg := mg) (base := base) (N := ["table", "amount", "n"]) (ps := ["table", "amount"]) (ms := [true, true]) (body := b__law_owed) (k := 1) F sc__law_owed rfl (fun cdv A outer s H E hr =>
  (s1 (sret (eB (cSum rfl) (by rfl) m_sum (by rfl) (ac (lc (own := [("n", 2)]) rfl nd (ir1 (by rfl) m_range (ac (pv' 1) an)) (blkOk_by (by rfl)) (fun _ _ _ _ _ => (gn (by decide) nd rfl (by first | exact .inl rfl | exact .inr rfl))) (fun _ _ _ _ _ => tn) (fun _ _ _ _ _ => (ecall G__law_rate (hr.mono (by omega)) (by rfl) g__law_rate k__law_rate i__law_rate rfl (ac (pv' 0) (ac (pv' 2) an))))) an)))))
  exact h
/-! ### owed -/
abbrev s_owed : Stmt := topS 1
theorem sc_owed : FnScope ["table", "amount", "found", "ends", "begin", "_", "rate", "end", "part"] ["table", "amount"] (defScope s_owed) := ⟨rfl, rfl, rfl, by decide +kernel, rfl, by decide +kernel, by decide +kernel⟩
def b_owed : DS :=
 (dSeq (dSet 2 (dC (.int 0)))
 (dSeq (dSet 3 (dOp2 gAdd (dLc [4, 5] (dWk (dSl (dVar 0) (dPart (dC (.int 1))) dNoP)) (gT 2 (gsC (gN 4) (gsC (gN 5) gsN))) dYes (dVar 4)) (dLst (dCons (dC .none) dNil))))
 (dSeq (dFor (dZip (dCons (dVar 0) (dCons (dVar 3) dNil))) (gT 2 (gsC (gT 2 (gsC (gN 4) (gsC (gN 6) gsN))) (gsC (gN 7) gsN)))
 ((dSeq (dSet 8 (dOp2 gSub (dIfE (dOp2T gIs (dVar 7) (dC .none)) (dVar 1) (dB gMin (dCons (dVar 1) (dCons (dVar 7) dNil)))) (dVar 4)))
 (dAug gIAdd 2 (dOp2 gMul (dVar 6) (dB gMax (dCons (dC (.int 0)) (dCons (dVar 8) dNil))))))))
 (dRet (dVar 2)))))
def f_owed : M Rs := runDef [true, true] 9 b_owed
theorem ok_owed {f : Addr} {fd : FuncData} (F : Fun K "owed" "owed" s_owed f fd) (m_zip : mg "zip" = none) (m_min : mg "min" = none) (m_max : mg "max" = none) : FnOk P w K mg base CX0 1 f fd ["table", "amount"] (spD K 2 f_owed) := by
  have nd := sc_owed.nd
  have h := fun_ok (P := P) (w := w) (K := K) (mg := mg) (base := base) (N := ["table", "amount", "found", "ends", "begin", "_", "rate", "end", "part"]) (ps := ["table", "amount"]) (ms := [true, true]) (body := b_owed) (k := 0) F sc_owed rfl (fun cdv A outer s H E hr =>
  (sc (sset (by decide) nd rfl (by first | exact .inl rfl | exact .inr rfl) ci)
 (sc (sset (by decide) nd rfl (by first | exact .inl rfl | exact .inr rfl) (e2 oAdd (lc (own := [("begin", 4), ("_", 5)]) rfl nd (iw (esl (pv' 0) (pp ci) pn)) (blkOk_by (by rfl)) (fun _ _ _ _ _ => (gt rfl (gsc (gn (by decide) nd rfl (by first | exact .inl rfl | exact .inr rfl)) (gsc (gn (by decide) nd rfl (by first | exact .inl rfl | exact .inr rfl)) gsn)))) (fun _ _ _ _ _ => tn) (fun _ _ _ _ _ => (pv' 4))) (el (ac cn an))))
 (sc (sfor PassesOwn.never rfl (izip (by rfl) m_zip (ac (pv' 0) (ac (pv' 3) an))) (gt rfl (gsc (gt rfl (gsc (gn (by decide) nd rfl (by first | exact .inl rfl | exact .inr rfl)) (gsc (gn (by decide) nd rfl (by first | exact .inl rfl | exact .inr rfl)) gsn))) (gsc (gn (by decide) nd rfl (by first | exact .inl rfl | exact .inr rfl)) gsn)))
 (sc (sset (by decide) nd rfl (by first | exact .inl rfl | exact .inr rfl) (e2 oSub (eife (tcmp oIs (pv' 7) cn) (pv' 1) (eB (cMin rfl) (by rfl) m_min (by rfl) (ac (pv' 1) (ac (pv' 7) an)))) (pv' 4)))
 (s1 (saug (by decide) pAdd nd rfl (by first | exact .inl rfl | exact .inr rfl) (e2 oMul (pv' 6) (eB (cMax rfl) (by rfl) m_max (by rfl) (ac ci (ac (pv' 8) an))))))))
 (s1 (sret (pv' 2)))))))
  exact h
/-! ### least_table -/
abbrev s_least_table : Stmt := topS 2
theorem sc_least_table : FnScope ["table", "found", "begin", "rate"] ["table"] (defScope s_least_table) := ⟨rfl, rfl, rfl, by decide +kernel, rfl, by decide +kernel, by decide +kernel⟩
def b_least_table : DS :=
 (dSeq (dSet 1 (dLst dNil))
 (dSeq (dFor (dWk (dVar 0)) (gT 2 (gsC (gN 2) (gsC (gN 3) gsN)))
 ((dIf (dOr (dOp2T gEq (dVar 1) (dLst dNil)) (dOp2T gNe (dOp2 gIx (dOp2 gIx (dVar 1) (dOp1 gNeg (dC (.int 1)))) (dC (.int 1))) (dVar 3)))
 ((dDrop (dMut 1 isLst true gAppend (dCons (dTup (dCons (dVar 2) (dCons (dVar 3) dNil))) dNil))))
 (dPass))))
 (dRet (dB gTuple (dCons (dVar 1) dNil)))))
def f_least_table : M Rs := runDef [true] 4 b_least_table
theorem ok_least_table {f : Addr} {fd : FuncData} (F : Fun K "least_table" "least_table" s_least_table f fd) (m_tuple : mg "tuple" = none) : FnOk P w K mg base CX0 1 f fd ["table"] (spD K 1 f_least_table) := by
  have nd := sc_least_table.nd
  have h := fun_ok (P := P) (w := w) (K := K) (mg := mg) (base := base) (N := ["table", "found", "begin", "rate"]) (ps := ["table"]) (ms := [true]) (body := b_least_table) (k := 0) F sc_least_table rfl (fun cdv A outer s H E hr =>
  (sc (sset (by decide) nd rfl (by first | exact .inl rfl | exact .inr rfl) (el an))
 (sc (sfor PassesOwn.never rfl (iw (pv' 0)) (gt rfl (gsc (gn (by decide) nd rfl (by first | exact .inl rfl | exact .inr rfl)) (gsc (gn (by decide) nd rfl (by first | exact .inl rfl | exact .inr rfl)) gsn)))
 (s1 (sif (twp (wor (tcmp (oEq (u64 hr)) (pv' 1) (el an)) (wor1 (tcmp (oNe (u64 hr)) (eix (u1 hr) (eix (u1 hr) (pv' 1) (e1 oNeg ci)) ci) (pv' 3)))))
 (s1 (sex (emut PySem.F.plainAttrs_list PySem.F.slot_list_append PySem.F.type_list_append mt_append ty_lst m_append (pv 1) (ac (et (ac (pv' 2) (ac (pv' 3) an))) an))))
 sn)))
 (s1 (sret (eTy cTuple (by rfl) m_tuple (by rfl) (ac (pv' 1) an)))))))
  exact h
/-! ### froms -/
abbrev s_froms : Stmt := topS 4
theorem sc_froms : FnScope ["one", "other", "begin", "_"] ["one", "other"] (defScope s_froms) := ⟨rfl, rfl, rfl, by decide +kernel, rfl, by decide +kernel, by decide +kernel⟩
def b_froms : DS :=
 (dRet (dB gSS (dCons (dLc [2, 3] (dWk (dOp2 gAdd (dVar 0) (dVar 1))) (gT 2 (gsC (gN 2) (gsC (gN 3) gsN))) dYes (dVar 2)) dNil)))
def f_froms : M Rs := runDef [true, true] 4 b_froms
theorem ok_froms {f : Addr} {fd : FuncData} (F : Fun K "froms" "froms" s_froms f fd) (m_sorted : mg "sorted" = none) (m_set : mg "set" = none) : FnOk P w K mg base CX0 1 f fd ["one", "other"] (spD K 2 f_froms) := by
  have nd := sc_froms.nd
  have h := fun_ok (P := P) (w := w) (K := K) (mg := mg) (base := base) (N := ["one", "other", "begin", "_"]) (ps := ["one", "other"]) (ms := [true, true]) (body := b_froms) (k := 0) F sc_froms rfl (fun cdv A outer s H E hr =>
  (s1 (sret (ess rfl (by rfl) m_sorted (by rfl) m_set (ac (lc (own := [("begin", 2), ("_", 3)]) rfl nd (iw (e2 oAdd (pv' 0) (pv' 1))) (blkOk_by (by rfl)) (fun _ _ _ _ _ => (gt rfl (gsc (gn (by decide) nd rfl (by first | exact .inl rfl | exact .inr rfl)) (gsc (gn (by decide) nd rfl (by first | exact .inl rfl | exact .inr rfl)) gsn)))) (fun _ _ _ _ _ => tn) (fun _ _ _ _ _ => (pv' 2))) an)))))
  exact h
/-! ### rate_at -/
abbrev s_rate_at : Stmt := topS 3
theorem sc_rate_at : FnScope ["table", "amount", "begin", "rate"] ["table", "amount"] (defScope s_rate_at) := ⟨rfl, rfl, rfl, by decide +kernel, rfl, by decide +kernel, by decide +kernel⟩
def b_rate_at : DS :=
 (dRet (dOp2 gIx (dLc [2, 3] (dWk (dVar 0)) (gT 2 (gsC (gN 2) (gsC (gN 3) gsN))) (dOp2T gLe (dVar 2) (dVar 1)) (dVar 3)) (dOp1 gNeg (dC (.int 1)))))
def f_rate_at : M Rs := runDef [true, true] 4 b_rate_at
theorem ok_rate_at {f : Addr} {fd : FuncData} (F : Fun K "rate_at" "rate_at" s_rate_at f fd)  : FnOk P w K mg base CX0 1 f fd ["table", "amount"] (spD K 2 f_rate_at) := by
  have nd := sc_rate_at.nd
  have h := fun_ok (P := P) (w := w) (K := K) (mg := mg) (base := base) (N := ["table", "amount", "begin", "rate"]) (ps := ["table", "amount"]) (ms := [true, true]) (body := b_rate_at) (k := 0) F sc_rate_at rfl (fun cdv A outer s H E hr =>
  (s1 (sret (eix (u1 hr) (lc (own := [("begin", 2), ("rate", 3)]) rfl nd (iw (pv' 0)) (blkOk_by (by rfl)) (fun _ _ _ _ _ => (gt rfl (gsc (gn (by decide) nd rfl (by first | exact .inl rfl | exact .inr rfl)) (gsc (gn (by decide) nd rfl (by first | exact .inl rfl | exact .inr rfl)) gsn)))) (fun _ _ _ _ _ => (t1 (tcmp (oLe (u64 hr)) (pv' 2) (pv' 1)))) (fun _ _ _ _ _ => (pv' 3))) (e1 oNeg ci)))))
  exact h
/-! ### same_tables -/
abbrev s_same_tables : Stmt := topS 5
theorem sc_same_tables : FnScope ["one", "other", "begin"] ["one", "other"] (defScope s_same_tables) := ⟨rfl, rfl, rfl, by decide +kernel, rfl, by decide +kernel, by decide +kernel⟩
def b_same_tables : DS :=
 (dSeq (dFor (dWk (dCall [true, true] f_froms (dCons (dVar 0) (dCons (dVar 1) dNil)))) (gN 2)
 ((dIf (dOp2T gNe (dCall [true, true] f_rate_at (dCons (dVar 0) (dCons (dVar 2) dNil))) (dCall [true, true] f_rate_at (dCons (dVar 1) (dCons (dVar 2) dNil))))
 ((dRet (dTup (dCons (dC (.str "no")) (dCons (dOp2 gAdd (dVar 2) (dC (.int 1))) dNil)))))
 (dPass))))
 (dRet (dTup (dCons (dC (.str "yes")) dNil))))
def f_same_tables : M Rs := runDef [true, true] 3 b_same_tables
theorem ok_same_tables {f : Addr} {fd : FuncData} (F : Fun K "same_tables" "same_tables" s_same_tables f fd) {f_a_froms : Addr} {d_froms : FuncData} (G_froms : FnOk P w K mg base CX0 1 f_a_froms d_froms ["one", "other"] (spD K 2 f_froms)) (g_froms : mg "froms" = some (.ref f_a_froms)) (k_froms : PySem.W.keepIn K (.ref f_a_froms) = true) (i_froms : Binds K d_froms ["one", "other"] []) {f_a_rate_at : Addr} {d_rate_at : FuncData} (G_rate_at : FnOk P w K mg base CX0 1 f_a_rate_at d_rate_at ["table", "amount"] (spD K 2 f_rate_at)) (g_rate_at : mg "rate_at" = some (.ref f_a_rate_at)) (k_rate_at : PySem.W.keepIn K (.ref f_a_rate_at) = true) (i_rate_at : Binds K d_rate_at ["table", "amount"] []) : FnOk P w K mg base CX0 2 f fd ["one", "other"] (spD K 2 f_same_tables) := by
  have nd := sc_same_tables.nd
  have h := fun_ok (P := P) (w := w) (K := K) (mg := mg) (base := base) (N := ["one", "other", "begin"]) (ps := ["one", "other"]) (ms := [true, true]) (body := b_same_tables) (k := 1) F sc_same_tables rfl (fun cdv A outer s H E hr =>
  (sc (sfor PassesOwn.never rfl (iw (ecall G_froms (hr.mono (by omega)) (by rfl) g_froms k_froms i_froms rfl (ac (pv' 0) (ac (pv' 1) an)))) (gn (by decide) nd rfl (by first | exact .inl rfl | exact .inr rfl))
 (s1 (sif (tcmp (oNe (u64 hr)) (ecall G_rate_at (hr.mono (by omega)) (by rfl) g_rate_at k_rate_at i_rate_at rfl (ac (pv' 0) (ac (pv' 2) an))) (ecall G_rate_at (hr.mono (by omega)) (by rfl) g_rate_at k_rate_at i_rate_at rfl (ac (pv' 1) (ac (pv' 2) an))))
 (s1 (sret (et (ac cs (ac (e2 oAdd (pv' 2) ci) an)))))
 sn)))
 (s1 (sret (et (ac cs an))))))
  exact h
/-! ### sum_table -/
abbrev s_sum_table : Stmt := topS 6
theorem sc_sum_table : FnScope ["one", "other", "begin"] ["one", "other"] (defScope s_sum_table) := ⟨rfl, rfl, rfl, by decide +kernel, rfl, by decide +kernel, by decide +kernel⟩
def b_sum_table : DS :=
 (dRet (dCall [true] f_least_table (dCons (dB gTuple (dCons (dLc [2] (dWk (dCall [true, true] f_froms (dCons (dVar 0) (dCons (dVar 1) dNil)))) (gN 2) dYes (dTup (dCons (dVar 2) (dCons (dOp2 gAdd (dCall [true, true] f_rate_at (dCons (dVar 0) (dCons (dVar 2) dNil))) (dCall [true, true] f_rate_at (dCons (dVar 1) (dCons (dVar 2) dNil)))) dNil)))) dNil)) dNil)))
def f_sum_table : M Rs := runDef [true, true] 3 b_sum_table
theorem ok_sum_table {f : Addr} {fd : FuncData} (F : Fun K "sum_table" "sum_table" s_sum_table f fd) {f_a_least_table : Addr} {d_least_table : FuncData} (G_least_table : FnOk P w K mg base CX0 1 f_a_least_table d_least_table ["table"] (spD K 1 f_least_table)) (g_least_table : mg "least_table" = some (.ref f_a_least_table)) (k_least_table : PySem.W.keepIn K (.ref f_a_least_table) = true) (i_least_table : Binds K d_least_table ["table"] []) {f_a_froms : Addr} {d_froms : FuncData} (G_froms : FnOk P w K mg base CX0 1 f_a_froms d_froms ["one", "other"] (spD K 2 f_froms)) (g_froms : mg "froms" = some (.ref f_a_froms)) (k_froms : PySem.W.keepIn K (.ref f_a_froms) = true) (i_froms : Binds K d_froms ["one", "other"] []) {f_a_rate_at : Addr} {d_rate_at : FuncData} (G_rate_at : FnOk P w K mg base CX0 1 f_a_rate_at d_rate_at ["table", "amount"] (spD K 2 f_rate_at)) (g_rate_at : mg "rate_at" = some (.ref f_a_rate_at)) (k_rate_at : PySem.W.keepIn K (.ref f_a_rate_at) = true) (i_rate_at : Binds K d_rate_at ["table", "amount"] []) (m_tuple : mg "tuple" = none) : FnOk P w K mg base CX0 2 f fd ["one", "other"] (spD K 2 f_sum_table) := by
  have nd := sc_sum_table.nd
  have h := fun_ok (P := P) (w := w) (K := K) (mg := mg) (base := base) (N := ["one", "other", "begin"]) (ps := ["one", "other"]) (ms := [true, true]) (body := b_sum_table) (k := 1) F sc_sum_table rfl (fun cdv A outer s H E hr =>
  (s1 (sret (ecall G_least_table (hr.mono (by omega)) (by rfl) g_least_table k_least_table i_least_table rfl (ac (eTy cTuple (by rfl) m_tuple (by rfl) (ac (lc (own := [("begin", 2)]) rfl nd (iw (ecall G_froms (hr.mono (by omega)) (by rfl) g_froms k_froms i_froms rfl (ac (pv' 0) (ac (pv' 1) an)))) (blkOk_by (by rfl)) (fun _ _ _ _ _ => (gn (by decide) nd rfl (by first | exact .inl rfl | exact .inr rfl))) (fun _ _ _ _ _ => tn) (fun _ _ _ _ _ => (et (ac (pv' 2) (ac (e2 oAdd (ecall G_rate_at (hr.mono (by omega)) (by rfl) g_rate_at k_rate_at i_rate_at rfl (ac (pv' 0) (ac (pv' 2) an))) (ecall G_rate_at (hr.mono (by omega)) (by rfl) g_rate_at k_rate_at i_rate_at rfl (ac (pv' 1) (ac (pv' 2) an)))) an))))) an)) an)))))
  exact h
/-! ### shifted -/
abbrev s_shifted : Stmt := topS 7
theorem sc_shifted : FnScope ["table", "by", "begin", "rate"] ["table", "by"] (defScope s_shifted) := ⟨rfl, rfl, rfl, by decide +kernel, rfl, by decide +kernel, by decide +kernel⟩
def b_shifted : DS :=
 (dRet (dB gTuple (dCons (dOp2 gAdd (dLst (dCons (dOp2 gIx (dVar 0) (dC (.int 0))) dNil)) (dLc [2, 3] (dWk (dSl (dVar 0) (dPart (dC (.int 1))) dNoP)) (gT 2 (gsC (gN 2) (gsC (gN 3) gsN))) dYes (dTup (dCons (dOp2 gAdd (dVar 2) (dVar 1)) (dCons (dVar 3) dNil))))) dNil)))
def f_shifted : M Rs := runDef [true, true] 4 b_shifted
theorem ok_shifted {f : Addr} {fd : FuncData} (F : Fun K "shifted" "shifted" s_shifted f fd) (m_tuple : mg "tuple" = none) : FnOk P w K mg base CX0 1 f fd ["table", "by"] (spD K 2 f_shifted) := by
  have nd := sc_shifted.nd
  have h := fun_ok (P := P) (w := w) (K := K) (mg := mg) (base := base) (N := ["table", "by", "begin", "rate"]) (ps := ["table", "by"]) (ms := [true, true]) (body := b_shifted) (k := 0) F sc_shifted rfl (fun cdv A outer s H E hr =>
  (s1 (sret (eTy cTuple (by rfl) m_tuple (by rfl) (ac (e2 oAdd (el (ac (eix (u1 hr) (pv' 0) ci) an)) (lc (own := [("begin", 2), ("rate", 3)]) rfl nd (iw (esl (pv' 0) (pp ci) pn)) (blkOk_by (by rfl)) (fun _ _ _ _ _ => (gt rfl (gsc (gn (by decide) nd rfl (by first | exact .inl rfl | exact .inr rfl)) (gsc (gn (by decide) nd rfl (by first | exact .inl rfl | exact .inr rfl)) gsn)))) (fun _ _ _ _ _ => tn) (fun _ _ _ _ _ => (et (ac (e2 oAdd (pv' 2) (pv' 1)) (ac (pv' 3) an)))))) an)))))
  exact h
/-! ### law -/
abbrev s_law : Stmt := topS 16
theorem sc_law : FnScope ["script", "w", "turn", "one", "other", "at", "begin", "rate", "amount", "least", "apart", "n", "both", "k", "by"] ["script"] (defScope s_law) := ⟨rfl, rfl, rfl, by decide +kernel, rfl, by decide +kernel, by decide +kernel⟩
def b_law : DS :=
 (dSeq (dSet 1 (dDisp [((dC (.str "draws")), (dCall [true, true] f__law_draws (dCons (dVar 0) (dCons (dC (.int 500)) dNil)))), ((dC (.str "at")), (dC (.int 0)))]))
 (dSeq (dFor (dRng1 (dCons (dC (.int 7)) dNil)) (gN 2)
 ((dSeq (dAsg (gT 2 (gsC (gN 3) (gsC (gN 4) gsN))) (dTup (dCons (dCall [true] f__law_table (dCons (dVar 1) dNil)) (dCons (dCall [true] f__law_table (dCons (dVar 1) dNil)) dNil))))
 (dSeq (dSet 5 (dCall [true, true] f__law_next (dCons (dVar 1) (dCons (dB gLen (dCons (dVar 3) dNil)) dNil))))
 (dSeq (dSet 4 (dCall [true, true] f__law_pick (dCons (dVar 1) (dCons (dLst (dCons (dVar 4) (dCons (dVar 3) (dCons (dOp2 gAdd (dOp2 gAdd (dSl (dVar 3) dNoP (dPart (dOp2 gAdd (dVar 5) (dC (.int 1))))) (dTup (dCons (dTup (dCons (dOp2 gAdd (dOp2 gIx (dOp2 gIx (dVar 3) (dVar 5)) (dC (.int 0))) (dC (.int 1))) (dCons (dOp2 gIx (dOp2 gIx (dVar 3) (dVar 5)) (dC (.int 1))) dNil))) dNil))) (dB gTuple (dCons (dLc [6, 7] (dWk (dSl (dVar 3) (dPart (dOp2 gAdd (dVar 5) (dC (.int 1)))) dNoP)) (gT 2 (gsC (gN 6) (gsC (gN 7) gsN))) dYes (dTup (dCons (dOp2 gAdd (dVar 6) (dC (.int 1))) (dCons (dVar 7) dNil)))) dNil))) (dCons (dOp2 gAdd (dOp2 gAdd (dSl (dVar 3) dNoP (dPart (dVar 5))) (dTup (dCons (dTup (dCons (dOp2 gIx (dOp2 gIx (dVar 3) (dVar 5)) (dC (.int 0))) (dCons (dOp2 gDiv (dOp2 gAdd (dOp2 gIx (dOp2 gIx (dVar 3) (dVar 5)) (dC (.int 1))) (dC (.int 1))) (dC (.int 2))) dNil))) dNil))) (dSl (dVar 3) (dPart (dOp2 gAdd (dVar 5) (dC (.int 1)))) dNoP)) dNil))))) dNil))))
 (dSeq (dFor (dWk (dTup (dCons (dC (.int 0)) (dCons (dC (.int 1)) (dCons (dCall [true, true] f__law_next (dCons (dVar 1) (dCons (dC (.int 80)) dNil))) (dCons (dOp2 gIx (dOp2 gIx (dVar 3) (dOp1 gNeg (dC (.int 1)))) (dC (.int 0))) dNil)))))) (gN 8)
 ((dIf (dNot (dTru (dCall [true, true] (f__law_alike 6) (dCons (dCall [true, true] f_owed (dCons (dVar 3) (dCons (dVar 8) dNil))) (dCons (dCall [true, true] f__law_owed (dCons (dVar 3) (dCons (dVar 8) dNil))) dNil)))))
 ((dRet (dC (.bool false))))
 (dPass))))
 (dSeq (dSet 9 (dLst (dCons (dOp2 gIx (dVar 3) (dC (.int 0))) dNil)))
 (dSeq (dFor (dWk (dSl (dVar 3) (dPart (dC (.int 1))) dNoP)) (gT 2 (gsC (gN 6) (gsC (gN 7) gsN)))
 ((dSet 9 (dOp2 gAdd (dVar 9) (dIfE (dOp2T gNe (dVar 7) (dOp2 gIx (dOp2 gIx (dVar 9) (dOp1 gNeg (dC (.int 1)))) (dC (.int 1)))) (dLst (dCons (dTup (dCons (dVar 6) (dCons (dVar 7) dNil))) dNil)) (dLst dNil))))))
 (dSeq (dIf (dNot (dTru (dCall [true, true] (f__law_alike 6) (dCons (dCall [true] f_least_table (dCons (dVar 3) dNil)) (dCons (dB gTuple (dCons (dVar 9) dNil)) dNil)))))
 ((dRet (dC (.bool false))))
 (dPass))
 (dSeq (dSet 10 (dLc [11] (dRng1 (dCons (dC (.int 90)) dNil)) (gN 11) (dOp2T gNe (dCall [true, true] f__law_rate (dCons (dVar 3) (dCons (dVar 11) dNil))) (dCall [true, true] f__law_rate (dCons (dVar 4) (dCons (dVar 11) dNil)))) (dOp2 gAdd (dVar 11) (dC (.int 1)))))
 (dSeq (dIf (dNot (dTru (dCall [true, true] (f__law_alike 6) (dCons (dCall [true, true] f_same_tables (dCons (dVar 3) (dCons (dVar 4) dNil))) (dCons (dIfE (dOp2T gNe (dVar 10) (dLst dNil)) (dTup (dCons (dC (.str "no")) (dCons (dOp2 gIx (dVar 10) (dC (.int 0))) dNil))) (dTup (dCons (dC (.str "yes")) dNil))) dNil)))))
 ((dRet (dC (.bool false))))
 (dPass))
 (dSeq (dSet 12 (dCall [true, true] f_sum_table (dCons (dVar 3) (dCons (dVar 4) dNil))))
 (dSeq (dIf (dOr (dNot (dTru (dIsi .tuple (dVar 12)))) (dOp2T gNe (dLc [8] (dRng1 (dCons (dC (.int 90)) dNil)) (gN 8) (dOp2T gNe (dCall [true, true] f__law_owed (dCons (dVar 12) (dCons (dVar 8) dNil))) (dOp2 gAdd (dCall [true, true] f__law_owed (dCons (dVar 3) (dCons (dVar 8) dNil))) (dCall [true, true] f__law_owed (dCons (dVar 4) (dCons (dVar 8) dNil))))) (dVar 8)) (dLst dNil)))
 ((dRet (dC (.bool false))))
 (dPass))
 (dSeq (dIf (dOp2T gNe (dLc [13] (dRng2 (dCons (dC (.int 1)) (dCons (dB gLen (dCons (dVar 12) dNil)) dNil))) (gN 13) (dOr (dOp2T gGe (dOp2 gIx (dOp2 gIx (dVar 12) (dOp2 gSub (dVar 13) (dC (.int 1)))) (dC (.int 0))) (dOp2 gIx (dOp2 gIx (dVar 12) (dVar 13)) (dC (.int 0)))) (dOp2T gEq (dOp2 gIx (dOp2 gIx (dVar 12) (dOp2 gSub (dVar 13) (dC (.int 1)))) (dC (.int 1))) (dOp2 gIx (dOp2 gIx (dVar 12) (dVar 13)) (dC (.int 1))))) (dVar 13)) (dLst dNil))
 ((dRet (dC (.bool false))))
 (dPass))
 (dSeq (dSet 14 (dCall [true, true] f__law_next (dCons (dVar 1) (dCons (dC (.int 9)) dNil))))
 (dIf (dNot (dTru (dCall [true, true] (f__law_alike 6) (dCons (dCall [true, true] f_shifted (dCons (dVar 3) (dCons (dVar 14) dNil))) (dCons (dOp2 gAdd (dSl (dVar 3) dNoP (dPart (dC (.int 1)))) (dB gTuple (dCons (dLc [6, 7] (dWk (dSl (dVar 3) (dPart (dC (.int 1))) dNoP)) (gT 2 (gsC (gN 6) (gsC (gN 7) gsN))) dYes (dTup (dCons (dOp2 gAdd (dVar 6) (dVar 14)) (dCons (dVar 7) dNil)))) dNil))) dNil)))))
 ((dRet (dC (.bool false))))
 (dPass)))))))))))))))))
 (dRet (dC (.bool true)))))
def f_law : M Rs := runDef [true] 15 b_law
theorem ok_law {f : Addr} {fd : FuncData} (F : Fun K "law" "law" s_law f fd) {f_a__law_draws : Addr} {d__law_draws : FuncData} (G__law_draws : FnOk P w K mg base CX0 1 f_a__law_draws d__law_draws ["script", "many"] (spD K 2 f__law_draws)) (g__law_draws : mg "_law_draws" = some (.ref f_a__law_draws)) (k__law_draws : PySem.W.keepIn K (.ref f_a__law_draws) = true) (i__law_draws : Binds K d__law_draws ["script", "many"] []) {f_a__law_table : Addr} {d__law_table : FuncData} (G__law_table : FnOk P w K mg base CX0 3 f_a__law_table d__law_table ["w"] (spD K 1 f__law_table)) (g__law_table : mg "_law_table" = some (.ref f_a__law_table)) (k__law_table : PySem.W.keepIn K (.ref f_a__law_table) = true) (i__law_table : Binds K d__law_table ["w"] []) {f_a__law_next : Addr} {d__law_next : FuncData} (G__law_next : FnOk P w K mg base CX0 1 f_a__law_next d__law_next ["w", "many"] (spD K 2 f__law_next)) (g__law_next : mg "_law_next" = some (.ref f_a__law_next)) (k__law_next : PySem.W.keepIn K (.ref f_a__law_next) = true) (i__law_next : Binds K d__law_next ["w", "many"] []) {f_a__law_pick : Addr} {d__law_pick : FuncData} (G__law_pick : FnOk P w K mg base CX0 2 f_a__law_pick d__law_pick ["w", "rows"] (spD K 2 f__law_pick)) (g__law_pick : mg "_law_pick" = some (.ref f_a__law_pick)) (k__law_pick : PySem.W.keepIn K (.ref f_a__law_pick) = true) (i__law_pick : Binds K d__law_pick ["w", "rows"] []) {f_a__law_alike : Addr} {d__law_alike : FuncData} (G__law_alike : FnOk P w K mg base CX0 6 f_a__law_alike d__law_alike ["given", "due"] (spD K 2 (f__law_alike 6))) (g__law_alike : mg "_law_alike" = some (.ref f_a__law_alike)) (k__law_alike : PySem.W.keepIn K (.ref f_a__law_alike) = true) (i__law_alike : Binds K d__law_alike ["given", "due"] []) {f_a__law_owed : Addr} {d__law_owed : FuncData} (G__law_owed : FnOk P w K mg base CX0 2 f_a__law_owed d__law_owed ["table", "amount"] (spD K 2 f__law_owed)) (g__law_owed : mg "_law_owed" = some (.ref f_a__law_owed)) (k__law_owed : PySem.W.keepIn K (.ref f_a__law_owed) = true) (i__law_owed : Binds K d__law_owed ["table", "amount"] []) {f_a_owed : Addr} {d_owed : FuncData} (G_owed : FnOk P w K mg base CX0 1 f_a_owed d_owed ["table", "amount"] (spD K 2 f_owed)) (g_owed : mg "owed" = some (.ref f_a_owed)) (k_owed : PySem.W.keepIn K (.ref f_a_owed) = true) (i_owed : Binds K d_owed ["table", "amount"] []) {f_a_least_table : Addr} {d_least_table : FuncData} (G_least_table : FnOk P w K mg base CX0 1 f_a_least_table d_least_table ["table"] (spD K 1 f_least_table)) (g_least_table : mg "least_table" = some (.ref f_a_least_table)) (k_least_table : PySem.W.keepIn K (.ref f_a_least_table) = true) (i_least_table : Binds K d_least_table ["table"] []) {f_a__law_rate : Addr} {d__law_rate : FuncData} (G__law_rate : FnOk P w K mg base CX0 1 f_a__law_rate d__law_rate ["table", "n"] (spD K 2 f__law_rate)) (g__law_rate : mg "_law_rate" = some (.ref f_a__law_rate)) (k__law_rate : PySem.W.keepIn K (.ref f_a__law_rate) = true) (i__law_rate : Binds K d__law_rate ["table", "n"] []) {f_a_same_tables : Addr} {d_same_tables : FuncData} (G_same_tables : FnOk P w K mg base CX0 2 f_a_same_tables d_same_tables ["one", "other"] (spD K 2 f_same_tables)) (g_same_tables : mg "same_tables" = some (.ref f_a_same_tables)) (k_same_tables : PySem.W.keepIn K (.ref f_a_same_tables) = true) (i_same_tables : Binds K d_same_tables ["one", "other"] []) {f_a_sum_table : Addr} {d_sum_table : FuncData} (G_sum_table : FnOk P w K mg base CX0 2 f_a_sum_table d_sum_table ["one", "other"] (spD K 2 f_sum_table)) (g_sum_table : mg "sum_table" = some (.ref f_a_sum_table)) (k_sum_table : PySem.W.keepIn K (.ref f_a_sum_table) = true) (i_sum_table : Binds K d_sum_table ["one", "other"] []) {f_a_shifted : Addr} {d_shifted : FuncData} (G_shifted : FnOk P w K mg base CX0 1 f_a_shifted d_shifted ["table", "by"] (spD K 2 f_shifted)) (g_shifted : mg "shifted" = some (.ref f_a_shifted)) (k_shifted : PySem.W.keepIn K (.ref f_a_shifted) = true) (i_shifted : Binds K d_shifted ["table", "by"] []) (m_range : mg "range" = none) (m_len : mg "len" = none) (m_tuple : mg "tuple" = none) (m_isinstance : mg "isinstance" = none) : FnOk P w K mg base CX0 7 f fd ["script"] (spD K 1 f_law) := by
  have nd := sc_law.nd
  have h := fun_ok (P := P) (w := w) (K := K) (mg := mg) (base := base) (N := ["script", "w", "turn", "one", "other", "at", "begin", "rate", "amount", "least", "apart", "n", "both", "k", "by"]) (ps := ["script"]) (ms := [true]) (body := b_law) (k := 6) F sc_law rfl (fun cdv A outer s H E hr =>
  (sc (sset (by decide) nd rfl (by first | exact .inl rfl | exact .inr rfl) (edi (pps_cons cs (ecall G__law_draws (hr.mono (by omega)) (by rfl) g__law_draws k__law_draws i__law_draws rfl (ac (pv' 0) (ac ci an))) (pps_cons cs ci pps_nil))))
 (sc (sfor PassesOwn.never rfl (ir1 (by rfl) m_range (ac ci an)) (gn (by decide) nd rfl (by first | exact .inl rfl | exact .inr rfl))
 (sc (sasg (et (ac (ecall G__law_table (hr.mono (by omega)) (by rfl) g__law_table k__law_table i__law_table rfl (ac (pv' 1) an)) (ac (ecall G__law_table (hr.mono (by omega)) (by rfl) g__law_table k__law_table i__law_table rfl (ac (pv' 1) an)) an))) (gt rfl (gsc (gn (by decide) nd rfl (by first | exact .inl rfl | exact .inr rfl)) (gsc (gn (by decide) nd rfl (by first | exact .inl rfl | exact .inr rfl)) gsn))))
 (sc (sset (by decide) nd rfl (by first | exact .inl rfl | exact .inr rfl) (ecall G__law_next (hr.mono (by omega)) (by rfl) g__law_next k__law_next i__law_next rfl (ac (pv' 1) (ac (eB cLen (by rfl) m_len (by rfl) (ac (pv' 3) an)) an))))
 (sc (sset (by decide) nd rfl (by first | exact .inl rfl | exact .inr rfl) (ecall G__law_pick (hr.mono (by omega)) (by rfl) g__law_pick k__law_pick i__law_pick rfl (ac (pv' 1) (ac (el (ac (pv' 4) (ac (pv' 3) (ac (e2 oAdd (e2 oAdd (esl (pv' 3) pn (pp (e2 oAdd (pv' 5) ci))) (et (ac (et (ac (e2 oAdd (eix (u1 hr) (eix (u1 hr) (pv' 3) (pv' 5)) ci) ci) (ac (eix (u1 hr) (eix (u1 hr) (pv' 3) (pv' 5)) ci) an))) an))) (eTy cTuple (by rfl) m_tuple (by rfl) (ac (lc (own := [("begin", 6), ("rate", 7)]) rfl nd (iw (esl (pv' 3) (pp (e2 oAdd (pv' 5) ci)) pn)) (blkOk_by (by rfl)) (fun _ _ _ _ _ => (gt rfl (gsc (gn (by decide) nd rfl (by first | exact .inl rfl | exact .inr rfl)) (gsc (gn (by decide) nd rfl (by first | exact .inl rfl | exact .inr rfl)) gsn)))) (fun _ _ _ _ _ => tn) (fun _ _ _ _ _ => (et (ac (e2 oAdd (pv' 6) ci) (ac (pv' 7) an))))) an))) (ac (e2 oAdd (e2 oAdd (esl (pv' 3) pn (pp (pv' 5))) (et (ac (et (ac (eix (u1 hr) (eix (u1 hr) (pv' 3) (pv' 5)) ci) (ac (e2 oDiv (e2 oAdd (eix (u1 hr) (eix (u1 hr) (pv' 3) (pv' 5)) ci) ci) ci) an))) an))) (esl (pv' 3) (pp (e2 oAdd (pv' 5) ci)) pn)) an))))) an))))
 (sc (sfor PassesOwn.never rfl (iw (et (ac ci (ac ci (ac (ecall G__law_next (hr.mono (by omega)) (by rfl) g__law_next k__law_next i__law_next rfl (ac (pv' 1) (ac ci an))) (ac (eix (u1 hr) (eix (u1 hr) (pv' 3) (e1 oNeg ci)) ci) an)))))) (gn (by decide) nd rfl (by first | exact .inl rfl | exact .inr rfl))
 (s1 (sif (tnot (ttr (ecall G__law_alike (hr.mono (by omega)) (by rfl) g__law_alike k__law_alike i__law_alike rfl (ac (ecall G_owed (hr.mono (by omega)) (by rfl) g_owed k_owed i_owed rfl (ac (pv' 3) (ac (pv' 8) an))) (ac (ecall G__law_owed (hr.mono (by omega)) (by rfl) g__law_owed k__law_owed i__law_owed rfl (ac (pv' 3) (ac (pv' 8) an))) an)))))
 (s1 (sret cb))
 sn)))
 (sc (sset (by decide) nd rfl (by first | exact .inl rfl | exact .inr rfl) (el (ac (eix (u1 hr) (pv' 3) ci) an)))
 (sc (sfor PassesOwn.never rfl (iw (esl (pv' 3) (pp ci) pn)) (gt rfl (gsc (gn (by decide) nd rfl (by first | exact .inl rfl | exact .inr rfl)) (gsc (gn (by decide) nd rfl (by first | exact .inl rfl | exact .inr rfl)) gsn)))
 (s1 (sset (by decide) nd rfl (by first | exact .inl rfl | exact .inr rfl) (e2 oAdd (pv' 9) (eife (tcmp (oNe (u64 hr)) (pv' 7) (eix (u1 hr) (eix (u1 hr) (pv' 9) (e1 oNeg ci)) ci)) (el (ac (et (ac (pv' 6) (ac (pv' 7) an))) an)) (el an))))))
 (sc (sif (tnot (ttr (ecall G__law_alike (hr.mono (by omega)) (by rfl) g__law_alike k__law_alike i__law_alike rfl (ac (ecall G_least_table (hr.mono (by omega)) (by rfl) g_least_table k_least_table i_least_table rfl (ac (pv' 3) an)) (ac (eTy cTuple (by rfl) m_tuple (by rfl) (ac (pv' 9) an)) an)))))
 (s1 (sret cb))
 sn)
 (sc (slc (own := [("n", 11)]) (by decide) rfl nd rfl rfl (sw_true rfl rfl rfl rfl) (ir1 (by rfl) m_range (ac ci an)) (blkOk_by (by rfl)) (fun _ _ _ _ _ => (gn (by decide) nd rfl (by first | exact .inl rfl | exact .inr rfl))) (fun _ _ _ _ _ => (t1 (tcmp (oNe (u64 hr)) (ecall G__law_rate (hr.mono (by omega)) (by rfl) g__law_rate k__law_rate i__law_rate rfl (ac (pv' 3) (ac (pv' 11) an))) (ecall G__law_rate (hr.mono (by omega)) (by rfl) g__law_rate k__law_rate i__law_rate rfl (ac (pv' 4) (ac (pv' 11) an)))))) (fun _ _ _ _ _ => (e2 oAdd (pv' 11) ci)))
 (sc (sif (tnot (ttr (ecall G__law_alike (hr.mono (by omega)) (by rfl) g__law_alike k__law_alike i__law_alike rfl (ac (ecall G_same_tables (hr.mono (by omega)) (by rfl) g_same_tables k_same_tables i_same_tables rfl (ac (pv' 3) (ac (pv' 4) an))) (ac (eife (tcmp (oNe (u64 hr)) (pv' 10) (el an)) (et (ac cs (ac (eix (u1 hr) (pv' 10) ci) an))) (et (ac cs an))) an)))))
 (s1 (sret cb))
 sn)
 (sc (sset (by decide) nd rfl (by first | exact .inl rfl | exact .inr rfl) (ecall G_sum_table (hr.mono (by omega)) (by rfl) g_sum_table k_sum_table i_sum_table rfl (ac (pv' 3) (ac (pv' 4) an))))
 (sc (sif (twp (wor (tnot (ttr (eisi .tuple (by rfl) m_isinstance (by rfl) m_tuple (by rfl) (pv' 12)))) (wor1 (tcmp (oNe (u64 hr)) (lc (own := [("amount", 8)]) rfl nd (ir1 (by rfl) m_range (ac ci an)) (blkOk_by (by rfl)) (fun _ _ _ _ _ => (gn (by decide) nd rfl (by first | exact .inl rfl | exact .inr rfl))) (fun _ _ _ _ _ => (t1 (tcmp (oNe (u64 hr)) (ecall G__law_owed (hr.mono (by omega)) (by rfl) g__law_owed k__law_owed i__law_owed rfl (ac (pv' 12) (ac (pv' 8) an))) (e2 oAdd (ecall G__law_owed (hr.mono (by omega)) (by rfl) g__law_owed k__law_owed i__law_owed rfl (ac (pv' 3) (ac (pv' 8) an))) (ecall G__law_owed (hr.mono (by omega)) (by rfl) g__law_owed k__law_owed i__law_owed rfl (ac (pv' 4) (ac (pv' 8) an))))))) (fun _ _ _ _ _ => (pv' 8))) (el an)))))
 (s1 (sret cb))
 sn)
 (sc (sif (tcmp (oNe (u64 hr)) (lc (own := [("k", 13)]) rfl nd (ir2 (by rfl) m_range (ac ci (ac (eB cLen (by rfl) m_len (by rfl) (ac (pv' 12) an)) an))) (blkOk_by (by rfl)) (fun _ _ _ _ _ => (gn (by decide) nd rfl (by first | exact .inl rfl | exact .inr rfl))) (fun _ _ _ _ _ => (t1 (twp (wor (tcmp (oGe (u64 hr)) (eix (u1 hr) (eix (u1 hr) (pv' 12) (e2 oSub (pv' 13) ci)) ci) (eix (u1 hr) (eix (u1 hr) (pv' 12) (pv' 13)) ci)) (wor1 (tcmp (oEq (u64 hr)) (eix (u1 hr) (eix (u1 hr) (pv' 12) (e2 oSub (pv' 13) ci)) ci) (eix (u1 hr) (eix (u1 hr) (pv' 12) (pv' 13)) ci))))))) (fun _ _ _ _ _ => (pv' 13))) (el an))
 (s1 (sret cb))
 sn)
 (sc (sset (by decide) nd rfl (by first | exact .inl rfl | exact .inr rfl) (ecall G__law_next (hr.mono (by omega)) (by rfl) g__law_next k__law_next i__law_next rfl (ac (pv' 1) (ac ci an))))
 (s1 (sif (tnot (ttr (ecall G__law_alike (hr.mono (by omega)) (by rfl) g__law_alike k__law_alike i__law_alike rfl (ac (ecall G_shifted (hr.mono (by omega)) (by rfl) g_shifted k_shifted i_shifted rfl (ac (pv' 3) (ac (pv' 14) an))) (ac (e2 oAdd (esl (pv' 3) pn (pp ci)) (eTy cTuple (by rfl) m_tuple (by rfl) (ac (lc (own := [("begin", 6), ("rate", 7)]) rfl nd (iw (esl (pv' 3) (pp ci) pn)) (blkOk_by (by rfl)) (fun _ _ _ _ _ => (gt rfl (gsc (gn (by decide) nd rfl (by first | exact .inl rfl | exact .inr rfl)) (gsc (gn (by decide) nd rfl (by first | exact .inl rfl | exact .inr rfl)) gsn)))) (fun _ _ _ _ _ => tn) (fun _ _ _ _ _ => (et (ac (e2 oAdd (pv' 6) (pv' 14)) (ac (pv' 7) an))))) an))) an)))))
 (s1 (sret cb))
 sn))))))))))))))))
 (s1 (sret cb)))))
  exact h
end
theorem all_mk {l : PySem.W.OpenLaw} {w : World} {K : PySem.W.Frag} {h : Heap} {mg : Str → Option Value} (X : K.In h) (G : h.Ns mainGlobals mg) {fa f1 f2 f3 f4 f5 f6 f7 f8 f9 f10 f11 f12 f13 f14 f15 : Addr} {od1 an1 od2 an2 od3 an3 od4 an4 od5 an5 od6 an6 od7 an7 od8 an8 od9 an9 od10 an10 od11 an11 od12 an12 od13 an13 od14 an14 od15 an15 : Option Addr} {sl1 sl2 sl3 sl4 sl5 sl6 sl7 sl8 sl9 sl10 sl11 sl12 sl13 sl14 sl15 : Array (Option Value)} {oc1 kV1 dc1 pm1 cd1 ct1 oc2 kV2 dc2 pm2 cd2 ct2 oc3 kV3 dc3 pm3 cd3 ct3 oc4 kV4 dc4 pm4 cd4 ct4 oc5 kV5 dc5 pm5 cd5 ct5 oc6 kV6 dc6 pm6 cd6 ct6 oc7 kV7 dc7 pm7 cd7 ct7 oc8 kV8 dc8 pm8 cd8 ct8 oc9 kV9 dc9 pm9 cd9 ct9 oc10 kV10 dc10 pm10 cd10 ct10 oc11 kV11 dc11 pm11 cd11 ct11 oc12 kV12 dc12 pm12 cd12 ct12 oc13 kV13 dc13 pm13 cd13 ct13 oc14 kV14 dc14 pm14 cd14 ct14 oc15 kV15 dc15 pm15 cd15 ct15 : Value} (hfa : mg "law" = some (.ref fa))
  (a1 : PySem.W.nsIn K mainGlobals "_law_draws" = some (some (.ref f1))) (l1 : K.lookup f1 = some ⟨oc1, od1, .func (PySem.W.fnOf "_law_draws" "_law_draws" (defArgs s__law_draws) (defBody s__law_draws) (defScope s__law_draws) .none kV1 dc1 pm1 an1 cd1 ct1), sl1⟩) (c1 : PySem.W.codeIn K cd1 "_law_draws" = true) (k1 : PySem.W.keepIn K (.ref f1) = true)
  (a2 : PySem.W.nsIn K mainGlobals "_law_next" = some (some (.ref f2))) (l2 : K.lookup f2 = some ⟨oc2, od2, .func (PySem.W.fnOf "_law_next" "_law_next" (defArgs s__law_next) (defBody s__law_next) (defScope s__law_next) .none kV2 dc2 pm2 an2 cd2 ct2), sl2⟩) (c2 : PySem.W.codeIn K cd2 "_law_next" = true) (k2 : PySem.W.keepIn K (.ref f2) = true)
  (a3 : PySem.W.nsIn K mainGlobals "_law_pick" = some (some (.ref f3))) (l3 : K.lookup f3 = some ⟨oc3, od3, .func (PySem.W.fnOf "_law_pick" "_law_pick" (defArgs s__law_pick) (defBody s__law_pick) (defScope s__law_pick) .none kV3 dc3 pm3 an3 cd3 ct3), sl3⟩) (c3 : PySem.W.codeIn K cd3 "_law_pick" = true) (k3 : PySem.W.keepIn K (.ref f3) = true)
  (a4 : PySem.W.nsIn K mainGlobals "_law_table" = some (some (.ref f4))) (l4 : K.lookup f4 = some ⟨oc4, od4, .func (PySem.W.fnOf "_law_table" "_law_table" (defArgs s__law_table) (defBody s__law_table) (defScope s__law_table) .none kV4 dc4 pm4 an4 cd4 ct4), sl4⟩) (c4 : PySem.W.codeIn K cd4 "_law_table" = true) (k4 : PySem.W.keepIn K (.ref f4) = true)
  (a5 : PySem.W.nsIn K mainGlobals "_law_alike" = some (some (.ref f5))) (l5 : K.lookup f5 = some ⟨oc5, od5, .func (PySem.W.fnOf "_law_alike" "_law_alike" (defArgs s__law_alike) (defBody s__law_alike) (defScope s__law_alike) .none kV5 dc5 pm5 an5 cd5 ct5), sl5⟩) (c5 : PySem.W.codeIn K cd5 "_law_alike" = true) (k5 : PySem.W.keepIn K (.ref f5) = true)
  (a6 : PySem.W.nsIn K mainGlobals "_law_rate" = some (some (.ref f6))) (l6 : K.lookup f6 = some ⟨oc6, od6, .func (PySem.W.fnOf "_law_rate" "_law_rate" (defArgs s__law_rate) (defBody s__law_rate) (defScope s__law_rate) .none kV6 dc6 pm6 an6 cd6 ct6), sl6⟩) (c6 : PySem.W.codeIn K cd6 "_law_rate" = true) (k6 : PySem.W.keepIn K (.ref f6) = true)
  (a7 : PySem.W.nsIn K mainGlobals "_law_owed" = some (some (.ref f7))) (l7 : K.lookup f7 = some ⟨oc7, od7, .func (PySem.W.fnOf "_law_owed" "_law_owed" (defArgs s__law_owed) (defBody s__law_owed) (defScope s__law_owed) .none kV7 dc7 pm7 an7 cd7 ct7), sl7⟩) (c7 : PySem.W.codeIn K cd7 "_law_owed" = true) (k7 : PySem.W.keepIn K (.ref f7) = true)
  (a8 : PySem.W.nsIn K mainGlobals "owed" = some (some (.ref f8))) (l8 : K.lookup f8 = some ⟨oc8, od8, .func (PySem.W.fnOf "owed" "owed" (defArgs s_owed) (defBody s_owed) (defScope s_owed) .none kV8 dc8 pm8 an8 cd8 ct8), sl8⟩) (c8 : PySem.W.codeIn K cd8 "owed" = true) (k8 : PySem.W.keepIn K (.ref f8) = true)
  (a9 : PySem.W.nsIn K mainGlobals "least_table" = some (some (.ref f9))) (l9 : K.lookup f9 = some ⟨oc9, od9, .func (PySem.W.fnOf "least_table" "least_table" (defArgs s_least_table) (defBody s_least_table) (defScope s_least_table) .none kV9 dc9 pm9 an9 cd9 ct9), sl9⟩) (c9 : PySem.W.codeIn K cd9 "least_table" = true) (k9 : PySem.W.keepIn K (.ref f9) = true)
  (a10 : PySem.W.nsIn K mainGlobals "froms" = some (some (.ref f10))) (l10 : K.lookup f10 = some ⟨oc10, od10, .func (PySem.W.fnOf "froms" "froms" (defArgs s_froms) (defBody s_froms) (defScope s_froms) .none kV10 dc10 pm10 an10 cd10 ct10), sl10⟩) (c10 : PySem.W.codeIn K cd10 "froms" = true) (k10 : PySem.W.keepIn K (.ref f10) = true)
  (a11 : PySem.W.nsIn K mainGlobals "rate_at" = some (some (.ref f11))) (l11 : K.lookup f11 = some ⟨oc11, od11, .func (PySem.W.fnOf "rate_at" "rate_at" (defArgs s_rate_at) (defBody s_rate_at) (defScope s_rate_at) .none kV11 dc11 pm11 an11 cd11 ct11), sl11⟩) (c11 : PySem.W.codeIn K cd11 "rate_at" = true) (k11 : PySem.W.keepIn K (.ref f11) = true)
  (a12 : PySem.W.nsIn K mainGlobals "same_tables" = some (some (.ref f12))) (l12 : K.lookup f12 = some ⟨oc12, od12, .func (PySem.W.fnOf "same_tables" "same_tables" (defArgs s_same_tables) (defBody s_same_tables) (defScope s_same_tables) .none kV12 dc12 pm12 an12 cd12 ct12), sl12⟩) (c12 : PySem.W.codeIn K cd12 "same_tables" = true) (k12 : PySem.W.keepIn K (.ref f12) = true)
  (a13 : PySem.W.nsIn K mainGlobals "sum_table" = some (some (.ref f13))) (l13 : K.lookup f13 = some ⟨oc13, od13, .func (PySem.W.fnOf "sum_table" "sum_table" (defArgs s_sum_table) (defBody s_sum_table) (defScope s_sum_table) .none kV13 dc13 pm13 an13 cd13 ct13), sl13⟩) (c13 : PySem.W.codeIn K cd13 "sum_table" = true) (k13 : PySem.W.keepIn K (.ref f13) = true)
  (a14 : PySem.W.nsIn K mainGlobals "shifted" = some (some (.ref f14))) (l14 : K.lookup f14 = some ⟨oc14, od14, .func (PySem.W.fnOf "shifted" "shifted" (defArgs s_shifted) (defBody s_shifted) (defScope s_shifted) .none kV14 dc14 pm14 an14 cd14 ct14), sl14⟩) (c14 : PySem.W.codeIn K cd14 "shifted" = true) (k14 : PySem.W.keepIn K (.ref f14) = true)
  (a15 : PySem.W.nsIn K mainGlobals "law" = some (some (.ref f15))) (l15 : K.lookup f15 = some ⟨oc15, od15, .func (PySem.W.fnOf "law" "law" (defArgs s_law) (defBody s_law) (defScope s_law) .none kV15 dc15 pm15 an15 cd15 ct15), sl15⟩) (c15 : PySem.W.codeIn K cd15 "law" = true) (k15 : PySem.W.keepIn K (.ref f15) = true)
  (z1 : PySem.W.nsIn K mainGlobals "range" = some none)
  (z2 : PySem.W.nsIn K mainGlobals "len" = some none)
  (z3 : PySem.W.nsIn K mainGlobals "abs" = some none)
  (z4 : PySem.W.nsIn K mainGlobals "int" = some none)
  (z5 : PySem.W.nsIn K mainGlobals "tuple" = some none)
  (z6 : PySem.W.nsIn K mainGlobals "isinstance" = some none)
  (z7 : PySem.W.nsIn K mainGlobals "bool" = some none)
  (z8 : PySem.W.nsIn K mainGlobals "str" = some none)
  (z9 : PySem.W.nsIn K mainGlobals "sum" = some none)
  (z10 : PySem.W.nsIn K mainGlobals "zip" = some none)
  (z11 : PySem.W.nsIn K mainGlobals "min" = some none)
  (z12 : PySem.W.nsIn K mainGlobals "max" = some none)
  (z13 : PySem.W.nsIn K mainGlobals "sorted" = some none)
  (z14 : PySem.W.nsIn K mainGlobals "set" = some none) :
  ∃ fd : FuncData, (∀ (s : Shared) (v : Value), BindsTo s fd ⟨[v], []⟩ [("script", v)]) ∧ ∀ base : Heap, K.In base → base.Ns mainGlobals mg → FnOk l.prog w K mg base CX0 7 fa fd ["script"] (spD K 1 f_law) := by
  have e := hfa.symm.trans (PySem.W.mg_of X G a15)
  cases e
  have F1 := fun_mk (st := s__law_draws) l1 c1 k1
  have b1 := F1.binds (ps := ["script", "many"]) fun _ _ _ _ _ _ us hl => match us, hl with | [_, _], _ => rfl
  have g1 := PySem.W.mg_of X G a1
  have F2 := fun_mk (st := s__law_next) l2 c2 k2
  have b2 := F2.binds (ps := ["w", "many"]) fun _ _ _ _ _ _ us hl => match us, hl with | [_, _], _ => rfl
  have g2 := PySem.W.mg_of X G a2
  have F3 := fun_mk (st := s__law_pick) l3 c3 k3
  have b3 := F3.binds (ps := ["w", "rows"]) fun _ _ _ _ _ _ us hl => match us, hl with | [_, _], _ => rfl
  have g3 := PySem.W.mg_of X G a3
  have F4 := fun_mk (st := s__law_table) l4 c4 k4
  have b4 := F4.binds (ps := ["w"]) fun _ _ _ _ _ _ us hl => match us, hl with | [_], _ => rfl
  have g4 := PySem.W.mg_of X G a4
  have F5 := fun_mk (st := s__law_alike) l5 c5 k5
  have b5 := F5.binds (ps := ["given", "due"]) fun _ _ _ _ _ _ us hl => match us, hl with | [_, _], _ => rfl
  have g5 := PySem.W.mg_of X G a5
  have F6 := fun_mk (st := s__law_rate) l6 c6 k6
  have b6 := F6.binds (ps := ["table", "n"]) fun _ _ _ _ _ _ us hl => match us, hl with | [_, _], _ => rfl
  have g6 := PySem.W.mg_of X G a6
  have F7 := fun_mk (st := s__law_owed) l7 c7 k7
  have b7 := F7.binds (ps := ["table", "amount"]) fun _ _ _ _ _ _ us hl => match us, hl with | [_, _], _ => rfl
  have g7 := PySem.W.mg_of X G a7
  have F8 := fun_mk (st := s_owed) l8 c8 k8
  have b8 := F8.binds (ps := ["table", "amount"]) fun _ _ _ _ _ _ us hl => match us, hl with | [_, _], _ => rfl
  have g8 := PySem.W.mg_of X G a8
  have F9 := fun_mk (st := s_least_table) l9 c9 k9
  have b9 := F9.binds (ps := ["table"]) fun _ _ _ _ _ _ us hl => match us, hl with | [_], _ => rfl
  have g9 := PySem.W.mg_of X G a9
  have F10 := fun_mk (st := s_froms) l10 c10 k10
  have b10 := F10.binds (ps := ["one", "other"]) fun _ _ _ _ _ _ us hl => match us, hl with | [_, _], _ => rfl
  have g10 := PySem.W.mg_of X G a10
  have F11 := fun_mk (st := s_rate_at) l11 c11 k11
  have b11 := F11.binds (ps := ["table", "amount"]) fun _ _ _ _ _ _ us hl => match us, hl with | [_, _], _ => rfl
  have g11 := PySem.W.mg_of X G a11
  have F12 := fun_mk (st := s_same_tables) l12 c12 k12
  have b12 := F12.binds (ps := ["one", "other"]) fun _ _ _ _ _ _ us hl => match us, hl with | [_, _], _ => rfl
  have g12 := PySem.W.mg_of X G a12
  have F13 := fun_mk (st := s_sum_table) l13 c13 k13
  have b13 := F13.binds (ps := ["one", "other"]) fun _ _ _ _ _ _ us hl => match us, hl with | [_, _], _ => rfl
  have g13 := PySem.W.mg_of X G a13
  have F14 := fun_mk (st := s_shifted) l14 c14 k14
  have b14 := F14.binds (ps := ["table", "by"]) fun _ _ _ _ _ _ us hl => match us, hl with | [_, _], _ => rfl
  have g14 := PySem.W.mg_of X G a14
  have F15 := fun_mk (st := s_law) l15 c15 k15
  have b15 := F15.binds (ps := ["script"]) fun _ _ _ _ _ _ us hl => match us, hl with | [_], _ => rfl
  have g15 := PySem.W.mg_of X G a15
  have y1 := PySem.W.mg_none_of X G z1
  have y2 := PySem.W.mg_none_of X G z2
  have y3 := PySem.W.mg_none_of X G z3
  have y4 := PySem.W.mg_none_of X G z4
  have y5 := PySem.W.mg_none_of X G z5
  have y6 := PySem.W.mg_none_of X G z6
  have y7 := PySem.W.mg_none_of X G z7
  have y8 := PySem.W.mg_none_of X G z8
  have y9 := PySem.W.mg_none_of X G z9
  have y10 := PySem.W.mg_none_of X G z10
  have y11 := PySem.W.mg_none_of X G z11
  have y12 := PySem.W.mg_none_of X G z12
  have y13 := PySem.W.mg_none_of X G z13
  have y14 := PySem.W.mg_none_of X G z14
  refine ⟨PySem.W.fnOf "law" "law" (defArgs s_law) (defBody s_law) (defScope s_law) .none kV15 dc15 pm15 an15 cd15 ct15, fun s v => .of_eq rfl, fun base _ _ => ?_⟩
  have G1 := ok__law_draws (P := l.prog) (w := w) (mg := mg) (base := base) F1 y1 y2 y3 y4
  have G2 := ok__law_next (P := l.prog) (w := w) (mg := mg) (base := base) F2 y2 y4
  have G3 := ok__law_pick (P := l.prog) (w := w) (mg := mg) (base := base) F3 G2 g2 F2.kp b2 y2
  have G4 := ok__law_table (P := l.prog) (w := w) (mg := mg) (base := base) F4 G2 g2 F2.kp b2 G3 g3 F3.kp b3 y1 y5
  have G5 := ok__law_alike (P := l.prog) (w := w) (mg := mg) (base := base) F5 g5 b5 y6 y5 y2 y1 y7 y4 y8 6
  have G6 := ok__law_rate (P := l.prog) (w := w) (mg := mg) (base := base) F6 
  have G7 := ok__law_owed (P := l.prog) (w := w) (mg := mg) (base := base) F7 G6 g6 F6.kp b6 y9 y1
  have G8 := ok_owed (P := l.prog) (w := w) (mg := mg) (base := base) F8 y10 y11 y12
  have G9 := ok_least_table (P := l.prog) (w := w) (mg := mg) (base := base) F9 y5
  have G10 := ok_froms (P := l.prog) (w := w) (mg := mg) (base := base) F10 y13 y14
  have G11 := ok_rate_at (P := l.prog) (w := w) (mg := mg) (base := base) F11 
  have G12 := ok_same_tables (P := l.prog) (w := w) (mg := mg) (base := base) F12 G10 g10 F10.kp b10 G11 g11 F11.kp b11
  have G13 := ok_sum_table (P := l.prog) (w := w) (mg := mg) (base := base) F13 G9 g9 F9.kp b9 G10 g10 F10.kp b10 G11 g11 F11.kp b11 y5
  have G14 := ok_shifted (P := l.prog) (w := w) (mg := mg) (base := base) F14 y5
  have G15 := ok_law (P := l.prog) (w := w) (mg := mg) (base := base) F15 G1 g1 F1.kp b1 G4 g4 F4.kp b4 G2 g2 F2.kp b2 G3 g3 F3.kp b3 G5 g5 F5.kp b5 G7 g7 F7.kp b7 G8 g8 F8.kp b8 G9 g9 F9.kp b9 G6 g6 F6.kp b6 G12 g12 F12.kp b12 G13 g13 F13.kp b13 G14 g14 F14.kp b14 y1 y2 y5 y6
  exact G15
end Lawk39

namespace Lawk39
abbrev P2 := Int × Int
def under (tb : List P2) (n : Int) : List P2 := tb.filter fun t => decide (t.1 ≤ n)
def ra (tb : List P2) (n : Int) : Int := match (under tb n).getLast? with
  | some t => t.2
  | none => 0
structure Tb (tb : List P2) : Prop where
  ne : tb ≠ []
  hd : ∀ t, tb.head? = some t → t.1 = 0
  up : tb.Pairwise fun a b => a.1 < b.1
  ra : ∀ t ∈ tb, 0 ≤ t.2 ∧ t.2 ≤ 1000
  le : ∀ t ∈ tb, t.1 ≤ 88
  len : tb.length ≤ 20
theorem Tb.ge {tb : List P2} (h : Tb tb) : ∀ t ∈ tb, 0 ≤ t.1 := by
  obtain ⟨a, t, rfl⟩ := List.exists_cons_of_ne_nil h.ne
  have h0 := h.hd a rfl
  have hu := List.pairwise_cons.mp h.up
  intro x hx
  rcases List.mem_cons.mp hx with e | e
  · subst e; omega
  · have := hu.1 x e; omega
theorem Tb.zero {tb : List P2} (h : Tb tb) : ∃ t ∈ tb, t.1 = 0 := by
  obtain ⟨a, t, rfl⟩ := List.exists_cons_of_ne_nil h.ne
  exact ⟨a, by simp, h.hd a rfl⟩
theorem under_last {tb : List P2} (h : Tb tb) {n : Int} (hn : 0 ≤ n) : ∃ ini x, under tb n = ini ++ [x] ∧ ra tb n = x.2 ∧ x ∈ tb := by
  rcases List.eq_nil_or_concat (under tb n) with e | ⟨ini, x, e⟩
  · obtain ⟨t, ht, h0⟩ := h.zero
    have : t ∈ under tb n := List.mem_filter.mpr ⟨ht, by simp; omega⟩
    rw [e] at this; cases this
  · rw [List.concat_eq_append] at e
    refine ⟨ini, x, e, ?_, ?_⟩
    · unfold ra; rw [e, List.getLast?_append]; rfl
    · have : x ∈ under tb n := by rw [e]; simp
      exact (List.mem_filter.mp this).1
theorem ra_bd {tb : List P2} (h : Tb tb) {n : Int} (hn : 0 ≤ n) : 0 ≤ ra tb n ∧ ra tb n ≤ 1000 := by
  obtain ⟨ini, x, _, e, hx⟩ := under_last h hn
  rw [e]; exact h.ra x hx
theorem ra_seg {pre post : List P2} {t : P2} {n : Int} (h1 : t.1 ≤ n) (h2 : ∀ x ∈ post, n < x.1) : ra (pre ++ t :: post) n = t.2 := by
  have hp : post.filter (fun t => decide (t.1 ≤ n)) = [] := List.filter_eq_nil_iff.mpr fun x hx => by have := h2 x hx; simp; omega
  unfold ra under
  rw [List.filter_append, List.filter_cons_of_pos (by simpa using h1), hp, List.getLast?_append]; rfl
theorem ra_snoc {p : List P2} {t : P2} {n : Int} : ra (p ++ [t]) n = if t.1 ≤ n then t.2 else ra p n := by
  split
  · rename_i h; exact ra_seg h (by simp)
  · rename_i h
    unfold ra under
    rw [List.filter_append, List.filter_cons_of_neg (by simpa using h)]; simp
/-- the sum below N -/
def sumR (tb : List P2) (N : Nat) : Int := ((List.range N).map fun n : Nat => ra tb n).sum
theorem sumR_succ (tb : List P2) (N : Nat) : sumR tb (N + 1) = sumR tb N + ra tb N := by
  unfold sumR
  rw [List.range_succ, List.map_append, List.sum_append]; simp
theorem sumR_seg {tb : List P2} {r : Int} {M : Nat} : ∀ (d : Nat), (∀ n : Nat, M ≤ n → n < M + d → ra tb n = r) → sumR tb (M + d) = sumR tb M + r * d
  | 0, _ => by simp
  | d + 1, h => by
    rw [← Nat.add_assoc, sumR_succ, sumR_seg d fun n h1 h2 => h n h1 (by omega), h (M + d) (by omega) (by omega)]
    have : r * ((d + 1 : Nat) : Int) = r * d + r := by rw [Int.natCast_add, Int.mul_add]; simp
    omega
theorem sumR_add {a b c : List P2} : ∀ (N : Nat), (∀ n : Nat, n < N → ra c n = ra a n + ra b n) → sumR c N = sumR a N + sumR b N
  | 0, _ => by simp [sumR]
  | N + 1, h => by
    rw [sumR_succ, sumR_succ, sumR_succ, sumR_add N fun n hn => h n (by omega), h N (by omega)]; omega
def capO (a : Int) : Option Int → Int
  | none => a
  | some e => min a e
/-- what is owed, part by part -/
theorem owed_step {pre post : List P2} {t : P2} {a : Int} (h : Tb (pre ++ t :: post)) (ha : 0 ≤ a) :
    sumR (pre ++ t :: post) (min a t.1).toNat + t.2 * max 0 (capO a (post.head?.map (·.1)) - t.1) = sumR (pre ++ t :: post) (capO a (post.head?.map (·.1))).toNat := by
  have ht0 := h.ge t (by simp)
  have hup := (List.pairwise_append.mp h.up).2.1
  have hup1 := (List.pairwise_cons.mp hup).1
  have hup2 := (List.pairwise_cons.mp hup).2
  have hb : ∀ n, (∀ e, post.head?.map (·.1) = some e → n < e) → ∀ x ∈ post, n < x.1 := fun n z x hx => by
    cases post with
    | nil => cases hx
    | cons y r =>
      have := z y.1 rfl
      rcases List.mem_cons.mp hx with q | q
      · subst q; exact this
      · have := (List.pairwise_cons.mp hup2).1 x q; omega
  have he : ∀ e, post.head?.map (·.1) = some e → t.1 < e := fun e z => by
    cases post with
    | nil => cases z
    | cons y r => cases z; exact hup1 y (by simp)
  generalize post.head?.map (·.1) = E at hb he
  have hc : capO a E ≤ a ∧ (∀ e, E = some e → capO a E ≤ e) ∧ (a ≤ t.1 → capO a E = a) ∧ (t.1 < a → t.1 < capO a E) := by
    cases E with
    | none => exact ⟨Int.le_refl a, fun e z => (nomatch z), fun _ => rfl, fun z => z⟩
    | some e =>
      have := he e rfl
      have hm : capO a (some e) = min a e := rfl
      rw [hm]
      exact ⟨by omega, fun e' z => by cases z; omega, fun _ => by omega, fun _ => by omega⟩
  obtain ⟨c1, c2, c3, c4⟩ := hc
  generalize capO a E = c at c1 c2 c3 c4
  by_cases hlt : t.1 < a
  · have h4 := c4 hlt
    have hs := sumR_seg (tb := pre ++ t :: post) (r := t.2) (M := t.1.toNat) (c - t.1).toNat fun n h1 h2 => ra_seg (by omega) (hb n fun e z => by have := c2 e z; omega)
    rw [show (min a t.1).toNat = t.1.toNat by omega, show max 0 (c - t.1) = ((c - t.1).toNat : Int) by omega, ← hs]
    congr 1; omega
  · rw [c3 (by omega), show max 0 (a - t.1) = 0 by omega, Int.mul_zero, show min a t.1 = a by omega]; omega
/-! the least table -/
def ltS (fo : List P2) (t : P2) : List P2 := match fo.getLast? with
  | none => fo ++ [t]
  | some l => if l.2 = t.2 then fo else fo ++ [t]
def lt (tb : List P2) : List P2 := tb.foldl ltS []
/-- what holds of the least table of p -/
structure Lt (p l : List P2) : Prop where
  sub : ∀ x ∈ l, x ∈ p
  up : l.Pairwise fun a b => a.1 < b.1
  ne : p ≠ [] → l ≠ []
  hd : l.head? = p.head?
  last : ∀ x y, l.getLast? = some x → p.getLast? = some y → x.2 = y.2
  ra : ∀ n, Lawk39.ra l n = Lawk39.ra p n
  dif : ∀ k a b, l[k]? = some a → l[k + 1]? = some b → a.1 < b.1 ∧ a.2 ≠ b.2
  len : l.length ≤ p.length
theorem head_app {p : List P2} {t : P2} (h : p ≠ []) : (p ++ [t]).head? = p.head? := by
  cases p with
  | nil => exact absurd rfl h
  | cons a r => rfl
theorem Lt.step {p l : List P2} {t : P2} (h : Lt p l) (hp : ∀ x ∈ p, x.1 < t.1) : Lt (p ++ [t]) (ltS l t) := by
  unfold ltS
  cases hl : l.getLast? with
  | none =>
    have l0 : l = [] := List.getLast?_eq_none_iff.mp hl
    have p0 : p = [] := Classical.byContradiction fun z => h.ne z l0
    subst l0; subst p0
    exact ⟨by simp, by simp, by simp, rfl, fun x y h1 h2 => by simp at h1 h2; rw [← h1, ← h2], fun n => rfl, fun k a b h1 h2 => by simp at h2, by simp⟩
  | some x =>
    have lne : l ≠ [] := fun z => by rw [z] at hl; cases hl
    have pne : p ≠ [] := fun z => by have := h.len; rw [z] at this; cases l with
      | nil => exact lne rfl
      | cons _ _ => simp at this
    have hxm : x ∈ l := List.mem_of_getLast? hl
    simp only []
    split
    · rename_i he
      refine ⟨fun y hy => by simp [h.sub y hy], h.up, fun _ => lne, by rw [h.hd, head_app pne], fun a b h1 h2 => ?_, fun n => ?_, h.dif, by have := h.len; simp; omega⟩
      · rw [hl] at h1; cases h1
        simp at h2; rw [← h2]; exact he
      · rw [ra_snoc, ← h.ra n]
        split
        · rename_i hn
          have : Lawk39.under l n = l := List.filter_eq_self.mpr fun y hy => by have := hp y (h.sub y hy); simp; omega
          unfold Lawk39.ra
          rw [this, hl]; exact he
        · rfl
    · rename_i he
      refine ⟨fun y hy => ?_, ?_, fun _ => by simp, by rw [head_app lne, h.hd, head_app pne], fun a b h1 h2 => by simp at h1 h2; rw [← h1, ← h2], fun n => by rw [ra_snoc, ra_snoc, h.ra n], fun k a b h1 h2 => ?_, by have := h.len; simp; omega⟩
      · rcases List.mem_append.mp hy with q | q
        · simp [h.sub y q]
        · simp at q; simp [q]
      · rw [List.pairwise_append]
        exact ⟨h.up, by simp, fun y hy z hz => by simp at hz; subst hz; exact hp y (h.sub y hy)⟩
      · rcases Nat.lt_or_ge (k + 1) l.length with z | z
        · rw [List.getElem?_append_left (by omega)] at h1
          rw [List.getElem?_append_left z] at h2
          exact h.dif k a b h1 h2
        · have hk : k + 1 = l.length := by
            have := (List.getElem?_eq_some_iff.mp h2).1
            simp at this; omega
          rw [List.getElem?_append_left (by omega)] at h1
          rw [List.getElem?_append_right z] at h2
          rw [show k + 1 - l.length = 0 by omega] at h2
          simp at h2; subst h2
          rw [List.getLast?_eq_getElem?, show l.length - 1 = k by omega, h1] at hl
          cases hl
          exact ⟨hp _ (h.sub _ hxm), he⟩
theorem lt_ok : ∀ (q p l : List P2), Lt p l → (p ++ q).Pairwise (fun a b => a.1 < b.1) → Lt (p ++ q) (q.foldl ltS l)
  | [], p, l, h, _ => by simpa using h
  | t :: q, p, l, h, hu => by
    rw [List.foldl_cons]
    have := lt_ok q (p ++ [t]) (ltS l t) (h.step fun x hx => (List.pairwise_append.mp hu).2.2 x hx t (by simp)) (by simpa using hu)
    simpa using this
theorem lt_Lt {tb : List P2} (h : tb.Pairwise fun a b => a.1 < b.1) : Lt tb (lt tb) := by
  have := lt_ok tb [] [] ⟨by simp, by simp, by simp, rfl, by simp, fun n => rfl, by simp, by simp⟩ (by simpa using h)
  unfold lt
  simpa using this
theorem lt_Tb {tb : List P2} (h : Tb tb) : Tb (lt tb) := by
  have l := lt_Lt h.up
  exact ⟨l.ne h.ne, fun t e => h.hd t (by rw [← l.hd]; exact e), l.up, fun t ht => h.ra t (l.sub t ht), fun t ht => h.le t (l.sub t ht), Nat.le_trans l.len h.len⟩
/-! froms -/
structure Fr (fs : List Int) (one other : List P2) : Prop where
  up : fs.Pairwise (· < ·)
  mem : ∀ k, k ∈ fs ↔ k ∈ (one ++ other).map (·.1)
theorem top_from {fs : List Int} {n : Int} (h : ∃ f ∈ fs, f ≤ n) : ∃ f ∈ fs, f ≤ n ∧ ∀ g ∈ fs, g ≤ n → g ≤ f := by
  induction fs with
  | nil => obtain ⟨f, hf, _⟩ := h; cases hf
  | cons x xs ih =>
    by_cases hx : ∃ f ∈ xs, f ≤ n
    · obtain ⟨f, h1, h2, h3⟩ := ih hx
      by_cases hc : x ≤ n ∧ f < x
      · refine ⟨x, by simp, hc.1, fun g hg hn => ?_⟩
        rcases List.mem_cons.mp hg with q | q
        · omega
        · have := h3 g q hn; omega
      · refine ⟨f, by simp [h1], h2, fun g hg hn => ?_⟩
        rcases List.mem_cons.mp hg with q | q
        · subst q; omega
        · exact h3 g q hn
    · obtain ⟨f, hf, hn⟩ := h
      rcases List.mem_cons.mp hf with q | q
      · subst q
        refine ⟨f, by simp, hn, fun g hg hgn => ?_⟩
        rcases List.mem_cons.mp hg with q | q
        · omega
        · exact absurd ⟨g, q, hgn⟩ hx
      · exact absurd ⟨f, q, hn⟩ hx
theorem ra_from {tb : List P2} {f n : Int} (h : ∀ t ∈ tb, t.1 ≤ n → t.1 ≤ f) (hf : f ≤ n) : ra tb n = ra tb f := by
  have : under tb n = under tb f := List.filter_congr fun t ht => by
    rw [decide_eq_decide]
    exact ⟨h t ht, fun z => Int.le_trans z hf⟩
  unfold ra; rw [this]
theorem Fr.at {fs : List Int} {one other : List P2} (h : Fr fs one other) (h1 : Tb one) (h2 : Tb other) {n : Int} (hn : 0 ≤ n) : ∃ f ∈ fs, f ≤ n ∧ (∀ g ∈ fs, g ≤ n → g ≤ f) ∧ ra one n = ra one f ∧ ra other n = ra other f := by
  have h0 : ∃ f ∈ fs, f ≤ n := by
    obtain ⟨t, ht, e⟩ := h1.zero
    exact ⟨t.1, (h.mem _).mpr (List.mem_map.mpr ⟨t, by simp [ht], rfl⟩), by omega⟩
  obtain ⟨f, hf, hfn, hg⟩ := top_from h0
  exact ⟨f, hf, hfn, hg, ra_from (fun t ht hn => hg _ ((h.mem _).mpr (List.mem_map.mpr ⟨t, by simp [ht], rfl⟩)) hn) hfn,
    ra_from (fun t ht hn => hg _ ((h.mem _).mpr (List.mem_map.mpr ⟨t, by simp [ht], rfl⟩)) hn) hfn⟩
def both0 (fs : List Int) (one other : List P2) : List P2 := fs.map fun f => (f, ra one f + ra other f)
theorem Fr.ge {fs : List Int} {one other : List P2} (h : Fr fs one other) (h1 : Tb one) (h2 : Tb other) : ∀ f ∈ fs, 0 ≤ f ∧ f ≤ 88 := fun f hf => by
  obtain ⟨t, ht, rfl⟩ := List.mem_map.mp ((h.mem f).mp hf)
  rcases List.mem_append.mp ht with q | q
  · exact ⟨h1.ge t q, h1.le t q⟩
  · exact ⟨h2.ge t q, h2.le t q⟩
theorem ra_both {fs : List Int} {one other : List P2} (h : Fr fs one other) (h1 : Tb one) (h2 : Tb other) {n : Int} (hn : 0 ≤ n) : ra (both0 fs one other) n = ra one n + ra other n := by
  obtain ⟨f, hf, hfn, hg, e1, e2⟩ := h.at h1 h2 hn
  obtain ⟨pre, post, e⟩ := List.append_of_mem hf
  rw [e1, e2]
  unfold both0
  rw [e, List.map_append, List.map_cons]
  refine ra_seg hfn fun x hx => ?_
  obtain ⟨g, hgp, rfl⟩ := List.mem_map.mp hx
  have hu := h.up
  rw [e] at hu
  have := (List.pairwise_cons.mp (List.pairwise_append.mp hu).2.1).1 g hgp
  refine Int.lt_of_not_ge fun z => ?_
  have := hg g (by rw [e]; simp [hgp]) z
  omega
theorem Fr.head {fs : List Int} {one other : List P2} (h : Fr fs one other) (h1 : Tb one) (h2 : Tb other) : ∃ r, fs = 0 :: r := by
  obtain ⟨t, ht, e⟩ := h1.zero
  have h0 : (0 : Int) ∈ fs := (h.mem _).mpr (List.mem_map.mpr ⟨t, by simp [ht], e⟩)
  cases fs with
  | nil => cases h0
  | cons x xs =>
    have hx := (h.ge h1 h2 x (by simp)).1
    rcases List.mem_cons.mp h0 with q | q
    · exact ⟨xs, by rw [q]⟩
    · have := (List.pairwise_cons.mp h.up).1 0 q; omega
theorem both_Tb {fs : List Int} {one other : List P2} (h : Fr fs one other) (h1 : Tb one) (h2 : Tb other) (b1 : ∀ t ∈ one, t.2 ≤ 99) (b2 : ∀ t ∈ other, t.2 ≤ 99) (hl : fs.length ≤ 20) : Tb (both0 fs one other) := by
  obtain ⟨r, hr⟩ := h.head h1 h2
  refine ⟨by unfold both0; rw [hr]; simp, fun t e => ?_, ?_, fun t ht => ?_, fun t ht => ?_, by unfold both0; rw [List.length_map]; exact hl⟩
  · unfold both0 at e; rw [hr] at e; simp at e; rw [← e]
  · unfold both0; rw [List.pairwise_map]; exact h.up
  · obtain ⟨f, hf, rfl⟩ := List.mem_map.mp ht
    have h0 := (h.ge h1 h2 f hf).1
    obtain ⟨_, x, _, e1, m1⟩ := under_last h1 h0
    obtain ⟨_, y, _, e2, m2⟩ := under_last h2 h0
    have := b1 x m1; have := b2 y m2; have := (h1.ra x m1).1; have := (h2.ra y m2).1
    simp only [e1, e2]; omega
  · obtain ⟨f, hf, rfl⟩ := List.mem_map.mp ht
    exact (h.ge h1 h2 f hf).2
theorem filter_first {N n : Nat} {p : Nat → Bool} (hn : n < N) (h : p n = true) (hm : ∀ m, m < n → p m = false) : ∃ t, (List.range N).filter p = n :: t := by
  have e : List.range N = List.range n ++ n :: ((List.range' n (N - n)).drop 1) := by
    rw [List.range_eq_range', List.range_eq_range']
    have : List.range' 0 N = List.range' 0 n ++ List.range' n (N - n) := by
      rw [show N = n + (N - n) by omega, ← List.range'_append_1]; simp
    rw [this]
    congr 1
    rw [show N - n = (N - n - 1) + 1 by omega, List.range'_succ]; rfl
  rw [e, List.filter_append]
  have : (List.range n).filter p = [] := List.filter_eq_nil_iff.mpr fun a ha => by simp [hm a (List.mem_range.mp ha)]
  rw [this, List.filter_cons_of_pos h]
  exact ⟨_, rfl⟩
/-- the first from at which they differ, or none -/
def fdif (fs : List Int) (one other : List P2) : Option Int := fs.find? fun f => decide (ra one f ≠ ra other f)
theorem apart_ok {fs : List Int} {one other : List P2} (h : Fr fs one other) (h1 : Tb one) (h2 : Tb other) :
    (fdif fs one other = none ∧ (List.range 90).filter (fun n : Nat => decide (ra one n ≠ ra other n)) = []) ∨ ∃ (f : Nat) (t : List Nat), fdif fs one other = some (f : Int) ∧ (List.range 90).filter (fun n : Nat => decide (ra one n ≠ ra other n)) = f :: t := by
  unfold fdif
  cases hf : fs.find? fun f => decide (ra one f ≠ ra other f) with
  | none =>
    refine .inl ⟨rfl, List.filter_eq_nil_iff.mpr fun n _ hc => ?_⟩
    obtain ⟨f, hfm, _, _, e1, e2⟩ := h.at h1 h2 (n := n) (by omega)
    have := List.find?_eq_none.mp hf f hfm
    rw [e1, e2] at hc
    exact this hc
  | some f =>
    have hp := List.find?_some hf
    have hm := List.mem_of_find?_eq_some hf
    have hb := h.ge h1 h2 f hm
    obtain ⟨_, pre, post, e, hpre⟩ := List.find?_eq_some_iff_append.mp hf
    have fc : ((f.toNat : Nat) : Int) = f := by omega
    obtain ⟨t, ht⟩ := filter_first (N := 90) (n := f.toNat) (p := fun n : Nat => decide (ra one n ≠ ra other n)) (by omega) (by show decide _ = true; rw [fc]; exact hp) (fun m hm' => by
      refine decide_eq_false fun hc => ?_
      obtain ⟨g, hgm, hgn, _, e1, e2⟩ := h.at h1 h2 (n := m) (by omega)
      rw [e1, e2] at hc
      have hgf : g < f := by omega
      rw [e] at hgm
      rcases List.mem_append.mp hgm with q | q
      · have := hpre g q; simp at this; exact hc this
      · have hu := h.up
        rw [e] at hu
        rcases List.mem_cons.mp q with z | z
        · omega
        · have := (List.pairwise_cons.mp (List.pairwise_append.mp hu).2.1).1 g z; omega)
    exact .inr ⟨f.toNat, t, by rw [fc], ht⟩
end Lawk39

-- 26
namespace Lawk39
open PySem L2 DL
def encP (t : P2) : D := .tuple [.int t.1, .int t.2]
theorem lrate_ok (tb : List P2) (n : Int) (h : Tb tb) (hn : 0 ≤ n) : f__law_rate [.fz (.tuple (tb.map encP)), .fz (.int n)] = .ok (.fz (.int (ra tb n))) [.fz (.tuple (tb.map encP)), .fz (.int n)] := by
  have hl := h.len
  unfold f__law_rate
  apply run_eq
  unfold b__law_rate
  simp (disch := first | omega | (simp only [List.length_map, List.length_append, List.length_cons, List.length_nil, List.length_set, List.length_range, sizeLine_eq]; done) | (simp only [List.length_map, List.length_append, List.length_cons, List.length_nil, List.length_set, List.length_range, sizeLine_eq]; omega)) only [↓wM_bd, ↓wM_pr, ↓wM_opt, ↓wM_C, ↓wM_var, ↓wM_look_fz, ↓wM_look_ow, ↓wM_look_nm, ↓wM_frz_fz, ↓wM_frz_ow, ↓wM_frz_nm, ↓wM_op2, ↓wM_op2T, ↓wO_gB, ↓wM_op1, ↓wM_nil, ↓wM_cons, ↓wM_frzA0, ↓wM_frzA, ↓wM_lookA0, ↓wM_lookA, ↓wM_tup, ↓wM_lst, ↓wM_B, ↓wM_isi, ↓wM_me, ↓wM_sl, ↓wM_noP, ↓wM_part, ↓wM_key, ↓wM_call, ↓wM_argSA0, ↓wM_argSA, ↓wM_argS_fz, ↓wM_argS_ow, ↓wM_argS_nm, ↓wM_mut, ↓wM_yes, ↓wM_rng1, ↓wM_rng2, ↓wM_wkV, ↓wM_wkT, ↓wM_wkL, ↓wM_wk2, ↓wM_wkB, ↓wM_wkC, ↓wM_wkS, ↓wM_wk1, ↓wM_wkLc, ↓wM_wkIf, ↓wM_wkLR, ↓wM_rng3, ↓wM_zip, ↓wM_rga1, ↓wM_rga2, ↓wM_lrg, ↓wM_trg, ↓wM_not, ↓wM_tru, ↓wM_and, ↓wM_or, ↓wM_andV, ↓wM_orV, ↓wM_notV, ↓wM_ifE, ↓wM_chain, ↓wM_chainT, ↓wM_dispN, ↓wM_pairs0, ↓wM_pairs, ↓wM_new, ↓wO_gsC, ↓wS_seq, ↓wS_pass, ↓wS_brk, ↓wS_cnt, ↓wS_ret, ↓wS_drop, ↓wS_if, ↓wS_set, ↓wS_asg, ↓wS_par, ↓wS_put, ↓wS_augS, ↓wS_aug, ↓wM_run', wO_some, varK_fz, varK_ow, varK_lk, lookK_fz, lookK_ow, lookK_lk, frzK_fz, frzK_ow, frzK_lk, argK_fz, argK_owt, argK_owf, argK_lkt, argK_lkf, mutK_ow', mutO_ow, putK'_ow, getK_ow, fzO_fz, augK_fz, intD_int, retK_fz, retK_ow, retK_nm, retO_fz, retO_ow, retO_lk, setR_fz, setR_ow, setR_nm, setK_fz, setK_ow, setK_lk, tru_b, tru_n, tru_l, tru_t, key_i, key_s, gIAdd_ii, gISub_ii, gPow_18, gN_ok, gsN_ok, gT_ok, setQs_nil, setQs_fz, setQs_ow, outP_t, outP_f, outP_n, wkO_fz, wkO_ow, wkO_lk, wk_fz, wk_ow, wk_nm, items_l, items_t, unl_none, unl_some, unlK_lk, callK_R, callR_fz, callR_ow, rest_nil, rest_cons, restK_some, wipe_nil, wipe_cons, gAdd_ii, gSub_ii, gMul_l, gMul_r, gDiv_ii, gMod_ii, gNeg_i, gEq_ii, gEq_ss, gEq_bb, gNe_ii, gNe_ss, gLt_ii, gLe_ii, gGt_ii, gGe_ii, gIx_l0, gIx_t0, gIx_l1, gIx_t1, gIx_l2, gIx_t2, gIx_t3, gIx_tz, gRev_l, gRev_t, zipD_ll, zipD_tl, zipD_lt, zipD_tt, int1_ok, int2_ok, gLen_l, gLen_t, gLen_d, gAbs_i, gAppend_l, gExtend_l, gInt_i, gTuple_l, gTuple_t, gList_l, gList_t, gMax_ii, gMin_ii, gSum_l, gIs_none, isLst, isT, isOw, List.getElem?_cons_zero, List.getElem?_cons_succ, List.length_cons, List.length_nil, List.cons_append, List.nil_append, List.replicate, List.set_cons_zero, List.set_cons_succ, true_and, and_true, if_true, List.map_cons, List.map_nil, Nat.reduceAdd, Nat.reduceSub, Nat.reduceLT, Nat.reduceLeDiff, List.length_set, List.length_map, List.length_append, List.length_range, reduceIte, reduceDIte, Bool.false_eq_true, slotOf, wb, Option.getD_some, nmOk, heldR, List.all_cons, List.all_nil, List.any_cons, List.any_nil, isNm, Bool.and_true, Bool.true_and, Bool.false_and, Bool.and_false, Bool.not_false, Bool.not_true, Bool.or_false]
  refine wM_lcM (enc := encP) (xs := tb) (l := none) (by simp (disch := first | omega | (simp only [List.length_map, List.length_append, List.length_cons, List.length_nil, List.length_set, List.length_range, sizeLine_eq]; done) | (simp only [List.length_map, List.length_append, List.length_cons, List.length_nil, List.length_set, List.length_range, sizeLine_eq]; omega)) only [↓wM_bd, ↓wM_pr, ↓wM_opt, ↓wM_C, ↓wM_var, ↓wM_look_fz, ↓wM_look_ow, ↓wM_look_nm, ↓wM_frz_fz, ↓wM_frz_ow, ↓wM_frz_nm, ↓wM_op2, ↓wM_op2T, ↓wO_gB, ↓wM_op1, ↓wM_nil, ↓wM_cons, ↓wM_frzA0, ↓wM_frzA, ↓wM_lookA0, ↓wM_lookA, ↓wM_tup, ↓wM_lst, ↓wM_B, ↓wM_isi, ↓wM_me, ↓wM_sl, ↓wM_noP, ↓wM_part, ↓wM_key, ↓wM_call, ↓wM_argSA0, ↓wM_argSA, ↓wM_argS_fz, ↓wM_argS_ow, ↓wM_argS_nm, ↓wM_mut, ↓wM_yes, ↓wM_rng1, ↓wM_rng2, ↓wM_wkV, ↓wM_wkT, ↓wM_wkL, ↓wM_wk2, ↓wM_wkB, ↓wM_wkC, ↓wM_wkS, ↓wM_wk1, ↓wM_wkLc, ↓wM_wkIf, ↓wM_wkLR, ↓wM_rng3, ↓wM_zip, ↓wM_rga1, ↓wM_rga2, ↓wM_lrg, ↓wM_trg, ↓wM_not, ↓wM_tru, ↓wM_and, ↓wM_or, ↓wM_andV, ↓wM_orV, ↓wM_notV, ↓wM_ifE, ↓wM_chain, ↓wM_chainT, ↓wM_dispN, ↓wM_pairs0, ↓wM_pairs, ↓wM_new, ↓wO_gsC, ↓wS_seq, ↓wS_pass, ↓wS_brk, ↓wS_cnt, ↓wS_ret, ↓wS_drop, ↓wS_if, ↓wS_set, ↓wS_asg, ↓wS_par, ↓wS_put, ↓wS_augS, ↓wS_aug, ↓wM_run', wO_some, varK_fz, varK_ow, varK_lk, lookK_fz, lookK_ow, lookK_lk, frzK_fz, frzK_ow, frzK_lk, argK_fz, argK_owt, argK_owf, argK_lkt, argK_lkf, mutK_ow', mutO_ow, putK'_ow, getK_ow, fzO_fz, augK_fz, intD_int, retK_fz, retK_ow, retK_nm, retO_fz, retO_ow, retO_lk, setR_fz, setR_ow, setR_nm, setK_fz, setK_ow, setK_lk, tru_b, tru_n, tru_l, tru_t, key_i, key_s, gIAdd_ii, gISub_ii, gPow_18, gN_ok, gsN_ok, gT_ok, setQs_nil, setQs_fz, setQs_ow, outP_t, outP_f, outP_n, wkO_fz, wkO_ow, wkO_lk, wk_fz, wk_ow, wk_nm, items_l, items_t, unl_none, unl_some, unlK_lk, callK_R, callR_fz, callR_ow, rest_nil, rest_cons, restK_some, wipe_nil, wipe_cons, gAdd_ii, gSub_ii, gMul_l, gMul_r, gDiv_ii, gMod_ii, gNeg_i, gEq_ii, gEq_ss, gEq_bb, gNe_ii, gNe_ss, gLt_ii, gLe_ii, gGt_ii, gGe_ii, gIx_l0, gIx_t0, gIx_l1, gIx_t1, gIx_l2, gIx_t2, gIx_t3, gIx_tz, gRev_l, gRev_t, zipD_ll, zipD_tl, zipD_lt, zipD_tt, int1_ok, int2_ok, gLen_l, gLen_t, gLen_d, gAbs_i, gAppend_l, gExtend_l, gInt_i, gTuple_l, gTuple_t, gList_l, gList_t, gMax_ii, gMin_ii, gSum_l, gIs_none, isLst, isT, isOw, List.getElem?_cons_zero, List.getElem?_cons_succ, List.length_cons, List.length_nil, List.cons_append, List.nil_append, List.replicate, List.set_cons_zero, List.set_cons_succ, true_and, and_true, if_true, List.map_cons, List.map_nil, Nat.reduceAdd, Nat.reduceSub, Nat.reduceLT, Nat.reduceLeDiff, List.length_set, List.length_map, List.length_append, List.length_range, reduceIte, reduceDIte, Bool.false_eq_true, slotOf, wb, Option.getD_some, nmOk, heldR, List.all_cons, List.all_nil, List.any_cons, List.any_nil, isNm, Bool.and_true, Bool.true_and, Bool.false_and, Bool.and_false, Bool.not_false, Bool.not_true, Bool.or_false, rng1_ok, rng2_ok] <;> (first | exact ⟨rfl, rfl⟩ | exact rfl)) (fun t => decide (t.1 ≤ n)) (fun t => .int t.2) (by rw [sizeLine_eq]; omega) (fun t _ => ?_) ?_
  · rw [show encP t = .tuple [.int t.1, .int t.2] from rfl]
    simp (disch := first | omega | (simp only [List.length_map, List.length_append, List.length_cons, List.length_nil, List.length_set, List.length_range, sizeLine_eq]; done) | (simp only [List.length_map, List.length_append, List.length_cons, List.length_nil, List.length_set, List.length_range, sizeLine_eq]; omega)) only [↓wM_bd, ↓wM_pr, ↓wM_opt, ↓wM_C, ↓wM_var, ↓wM_look_fz, ↓wM_look_ow, ↓wM_look_nm, ↓wM_frz_fz, ↓wM_frz_ow, ↓wM_frz_nm, ↓wM_op2, ↓wM_op2T, ↓wO_gB, ↓wM_op1, ↓wM_nil, ↓wM_cons, ↓wM_frzA0, ↓wM_frzA, ↓wM_lookA0, ↓wM_lookA, ↓wM_tup, ↓wM_lst, ↓wM_B, ↓wM_isi, ↓wM_me, ↓wM_sl, ↓wM_noP, ↓wM_part, ↓wM_key, ↓wM_call, ↓wM_argSA0, ↓wM_argSA, ↓wM_argS_fz, ↓wM_argS_ow, ↓wM_argS_nm, ↓wM_mut, ↓wM_yes, ↓wM_rng1, ↓wM_rng2, ↓wM_wkV, ↓wM_wkT, ↓wM_wkL, ↓wM_wk2, ↓wM_wkB, ↓wM_wkC, ↓wM_wkS, ↓wM_wk1, ↓wM_wkLc, ↓wM_wkIf, ↓wM_wkLR, ↓wM_rng3, ↓wM_zip, ↓wM_rga1, ↓wM_rga2, ↓wM_lrg, ↓wM_trg, ↓wM_not, ↓wM_tru, ↓wM_and, ↓wM_or, ↓wM_andV, ↓wM_orV, ↓wM_notV, ↓wM_ifE, ↓wM_chain, ↓wM_chainT, ↓wM_dispN, ↓wM_pairs0, ↓wM_pairs, ↓wM_new, ↓wO_gsC, ↓wS_seq, ↓wS_pass, ↓wS_brk, ↓wS_cnt, ↓wS_ret, ↓wS_drop, ↓wS_if, ↓wS_set, ↓wS_asg, ↓wS_par, ↓wS_put, ↓wS_augS, ↓wS_aug, ↓wM_run', wO_some, varK_fz, varK_ow, varK_lk, lookK_fz, lookK_ow, lookK_lk, frzK_fz, frzK_ow, frzK_lk, argK_fz, argK_owt, argK_owf, argK_lkt, argK_lkf, mutK_ow', mutO_ow, putK'_ow, getK_ow, fzO_fz, augK_fz, intD_int, retK_fz, retK_ow, retK_nm, retO_fz, retO_ow, retO_lk, setR_fz, setR_ow, setR_nm, setK_fz, setK_ow, setK_lk, tru_b, tru_n, tru_l, tru_t, key_i, key_s, gIAdd_ii, gISub_ii, gPow_18, gN_ok, gsN_ok, gT_ok, setQs_nil, setQs_fz, setQs_ow, outP_t, outP_f, outP_n, wkO_fz, wkO_ow, wkO_lk, wk_fz, wk_ow, wk_nm, items_l, items_t, unl_none, unl_some, unlK_lk, callK_R, callR_fz, callR_ow, rest_nil, rest_cons, restK_some, wipe_nil, wipe_cons, gAdd_ii, gSub_ii, gMul_l, gMul_r, gDiv_ii, gMod_ii, gNeg_i, gEq_ii, gEq_ss, gEq_bb, gNe_ii, gNe_ss, gLt_ii, gLe_ii, gGt_ii, gGe_ii, gIx_l0, gIx_t0, gIx_l1, gIx_t1, gIx_l2, gIx_t2, gIx_t3, gIx_tz, gRev_l, gRev_t, zipD_ll, zipD_tl, zipD_lt, zipD_tt, int1_ok, int2_ok, gLen_l, gLen_t, gLen_d, gAbs_i, gAppend_l, gExtend_l, gInt_i, gTuple_l, gTuple_t, gList_l, gList_t, gMax_ii, gMin_ii, gSum_l, gIs_none, isLst, isT, isOw, List.getElem?_cons_zero, List.getElem?_cons_succ, List.length_cons, List.length_nil, List.cons_append, List.nil_append, List.replicate, List.set_cons_zero, List.set_cons_succ, true_and, and_true, if_true, List.map_cons, List.map_nil, Nat.reduceAdd, Nat.reduceSub, Nat.reduceLT, Nat.reduceLeDiff, List.length_set, List.length_map, List.length_append, List.length_range, reduceIte, reduceDIte, Bool.false_eq_true, slotOf, wb, Option.getD_some, nmOk, heldR, List.all_cons, List.all_nil, List.any_cons, List.any_nil, isNm, Bool.and_true, Bool.true_and, Bool.false_and, Bool.and_false, Bool.not_false, Bool.not_true, Bool.or_false]
    by_cases h1 : t.1 ≤ n
    · simp (disch := first | omega | (simp only [List.length_map, List.length_append, List.length_cons, List.length_nil, List.length_set, List.length_range, sizeLine_eq]; done) | (simp only [List.length_map, List.length_append, List.length_cons, List.length_nil, List.length_set, List.length_range, sizeLine_eq]; omega)) only [↓wM_bd, ↓wM_pr, ↓wM_opt, ↓wM_C, ↓wM_var, ↓wM_look_fz, ↓wM_look_ow, ↓wM_look_nm, ↓wM_frz_fz, ↓wM_frz_ow, ↓wM_frz_nm, ↓wM_op2, ↓wM_op2T, ↓wO_gB, ↓wM_op1, ↓wM_nil, ↓wM_cons, ↓wM_frzA0, ↓wM_frzA, ↓wM_lookA0, ↓wM_lookA, ↓wM_tup, ↓wM_lst, ↓wM_B, ↓wM_isi, ↓wM_me, ↓wM_sl, ↓wM_noP, ↓wM_part, ↓wM_key, ↓wM_call, ↓wM_argSA0, ↓wM_argSA, ↓wM_argS_fz, ↓wM_argS_ow, ↓wM_argS_nm, ↓wM_mut, ↓wM_yes, ↓wM_rng1, ↓wM_rng2, ↓wM_wkV, ↓wM_wkT, ↓wM_wkL, ↓wM_wk2, ↓wM_wkB, ↓wM_wkC, ↓wM_wkS, ↓wM_wk1, ↓wM_wkLc, ↓wM_wkIf, ↓wM_wkLR, ↓wM_rng3, ↓wM_zip, ↓wM_rga1, ↓wM_rga2, ↓wM_lrg, ↓wM_trg, ↓wM_not, ↓wM_tru, ↓wM_and, ↓wM_or, ↓wM_andV, ↓wM_orV, ↓wM_notV, ↓wM_ifE, ↓wM_chain, ↓wM_chainT, ↓wM_dispN, ↓wM_pairs0, ↓wM_pairs, ↓wM_new, ↓wO_gsC, ↓wS_seq, ↓wS_pass, ↓wS_brk, ↓wS_cnt, ↓wS_ret, ↓wS_drop, ↓wS_if, ↓wS_set, ↓wS_asg, ↓wS_par, ↓wS_put, ↓wS_augS, ↓wS_aug, ↓wM_run', wO_some, varK_fz, varK_ow, varK_lk, lookK_fz, lookK_ow, lookK_lk, frzK_fz, frzK_ow, frzK_lk, argK_fz, argK_owt, argK_owf, argK_lkt, argK_lkf, mutK_ow', mutO_ow, putK'_ow, getK_ow, fzO_fz, augK_fz, intD_int, retK_fz, retK_ow, retK_nm, retO_fz, retO_ow, retO_lk, setR_fz, setR_ow, setR_nm, setK_fz, setK_ow, setK_lk, tru_b, tru_n, tru_l, tru_t, key_i, key_s, gIAdd_ii, gISub_ii, gPow_18, gN_ok, gsN_ok, gT_ok, setQs_nil, setQs_fz, setQs_ow, outP_t, outP_f, outP_n, wkO_fz, wkO_ow, wkO_lk, wk_fz, wk_ow, wk_nm, items_l, items_t, unl_none, unl_some, unlK_lk, callK_R, callR_fz, callR_ow, rest_nil, rest_cons, restK_some, wipe_nil, wipe_cons, gAdd_ii, gSub_ii, gMul_l, gMul_r, gDiv_ii, gMod_ii, gNeg_i, gEq_ii, gEq_ss, gEq_bb, gNe_ii, gNe_ss, gLt_ii, gLe_ii, gGt_ii, gGe_ii, gIx_l0, gIx_t0, gIx_l1, gIx_t1, gIx_l2, gIx_t2, gIx_t3, gIx_tz, gRev_l, gRev_t, zipD_ll, zipD_tl, zipD_lt, zipD_tt, int1_ok, int2_ok, gLen_l, gLen_t, gLen_d, gAbs_i, gAppend_l, gExtend_l, gInt_i, gTuple_l, gTuple_t, gList_l, gList_t, gMax_ii, gMin_ii, gSum_l, gIs_none, isLst, isT, isOw, List.getElem?_cons_zero, List.getElem?_cons_succ, List.length_cons, List.length_nil, List.cons_append, List.nil_append, List.replicate, List.set_cons_zero, List.set_cons_succ, true_and, and_true, if_true, List.map_cons, List.map_nil, Nat.reduceAdd, Nat.reduceSub, Nat.reduceLT, Nat.reduceLeDiff, List.length_set, List.length_map, List.length_append, List.length_range, reduceIte, reduceDIte, Bool.false_eq_true, slotOf, wb, Option.getD_some, nmOk, heldR, List.all_cons, List.all_nil, List.any_cons, List.any_nil, isNm, Bool.and_true, Bool.true_and, Bool.false_and, Bool.and_false, Bool.not_false, Bool.not_true, Bool.or_false, h1, decide_true]
    · simp (disch := first | omega | (simp only [List.length_map, List.length_append, List.length_cons, List.length_nil, List.length_set, List.length_range, sizeLine_eq]; done) | (simp only [List.length_map, List.length_append, List.length_cons, List.length_nil, List.length_set, List.length_range, sizeLine_eq]; omega)) only [↓wM_bd, ↓wM_pr, ↓wM_opt, ↓wM_C, ↓wM_var, ↓wM_look_fz, ↓wM_look_ow, ↓wM_look_nm, ↓wM_frz_fz, ↓wM_frz_ow, ↓wM_frz_nm, ↓wM_op2, ↓wM_op2T, ↓wO_gB, ↓wM_op1, ↓wM_nil, ↓wM_cons, ↓wM_frzA0, ↓wM_frzA, ↓wM_lookA0, ↓wM_lookA, ↓wM_tup, ↓wM_lst, ↓wM_B, ↓wM_isi, ↓wM_me, ↓wM_sl, ↓wM_noP, ↓wM_part, ↓wM_key, ↓wM_call, ↓wM_argSA0, ↓wM_argSA, ↓wM_argS_fz, ↓wM_argS_ow, ↓wM_argS_nm, ↓wM_mut, ↓wM_yes, ↓wM_rng1, ↓wM_rng2, ↓wM_wkV, ↓wM_wkT, ↓wM_wkL, ↓wM_wk2, ↓wM_wkB, ↓wM_wkC, ↓wM_wkS, ↓wM_wk1, ↓wM_wkLc, ↓wM_wkIf, ↓wM_wkLR, ↓wM_rng3, ↓wM_zip, ↓wM_rga1, ↓wM_rga2, ↓wM_lrg, ↓wM_trg, ↓wM_not, ↓wM_tru, ↓wM_and, ↓wM_or, ↓wM_andV, ↓wM_orV, ↓wM_notV, ↓wM_ifE, ↓wM_chain, ↓wM_chainT, ↓wM_dispN, ↓wM_pairs0, ↓wM_pairs, ↓wM_new, ↓wO_gsC, ↓wS_seq, ↓wS_pass, ↓wS_brk, ↓wS_cnt, ↓wS_ret, ↓wS_drop, ↓wS_if, ↓wS_set, ↓wS_asg, ↓wS_par, ↓wS_put, ↓wS_augS, ↓wS_aug, ↓wM_run', wO_some, varK_fz, varK_ow, varK_lk, lookK_fz, lookK_ow, lookK_lk, frzK_fz, frzK_ow, frzK_lk, argK_fz, argK_owt, argK_owf, argK_lkt, argK_lkf, mutK_ow', mutO_ow, putK'_ow, getK_ow, fzO_fz, augK_fz, intD_int, retK_fz, retK_ow, retK_nm, retO_fz, retO_ow, retO_lk, setR_fz, setR_ow, setR_nm, setK_fz, setK_ow, setK_lk, tru_b, tru_n, tru_l, tru_t, key_i, key_s, gIAdd_ii, gISub_ii, gPow_18, gN_ok, gsN_ok, gT_ok, setQs_nil, setQs_fz, setQs_ow, outP_t, outP_f, outP_n, wkO_fz, wkO_ow, wkO_lk, wk_fz, wk_ow, wk_nm, items_l, items_t, unl_none, unl_some, unlK_lk, callK_R, callR_fz, callR_ow, rest_nil, rest_cons, restK_some, wipe_nil, wipe_cons, gAdd_ii, gSub_ii, gMul_l, gMul_r, gDiv_ii, gMod_ii, gNeg_i, gEq_ii, gEq_ss, gEq_bb, gNe_ii, gNe_ss, gLt_ii, gLe_ii, gGt_ii, gGe_ii, gIx_l0, gIx_t0, gIx_l1, gIx_t1, gIx_l2, gIx_t2, gIx_t3, gIx_tz, gRev_l, gRev_t, zipD_ll, zipD_tl, zipD_lt, zipD_tt, int1_ok, int2_ok, gLen_l, gLen_t, gLen_d, gAbs_i, gAppend_l, gExtend_l, gInt_i, gTuple_l, gTuple_t, gList_l, gList_t, gMax_ii, gMin_ii, gSum_l, gIs_none, isLst, isT, isOw, List.getElem?_cons_zero, List.getElem?_cons_succ, List.length_cons, List.length_nil, List.cons_append, List.nil_append, List.replicate, List.set_cons_zero, List.set_cons_succ, true_and, and_true, if_true, List.map_cons, List.map_nil, Nat.reduceAdd, Nat.reduceSub, Nat.reduceLT, Nat.reduceLeDiff, List.length_set, List.length_map, List.length_append, List.length_range, reduceIte, reduceDIte, Bool.false_eq_true, slotOf, wb, Option.getD_some, nmOk, heldR, List.all_cons, List.all_nil, List.any_cons, List.any_nil, isNm, Bool.and_true, Bool.true_and, Bool.false_and, Bool.and_false, Bool.not_false, Bool.not_true, Bool.or_false, h1, decide_false]
  · obtain ⟨ini, x, e, e2, _⟩ := under_last h hn
    rw [show tb.filter (fun t => decide (t.1 ≤ n)) = ini ++ [x] from e]
    simp (disch := first | omega | (simp only [List.length_map, List.length_append, List.length_cons, List.length_nil, List.length_set, List.length_range, sizeLine_eq]; done) | (simp only [List.length_map, List.length_append, List.length_cons, List.length_nil, List.length_set, List.length_range, sizeLine_eq]; omega)) only [↓wM_bd, ↓wM_pr, ↓wM_opt, ↓wM_C, ↓wM_var, ↓wM_look_fz, ↓wM_look_ow, ↓wM_look_nm, ↓wM_frz_fz, ↓wM_frz_ow, ↓wM_frz_nm, ↓wM_op2, ↓wM_op2T, ↓wO_gB, ↓wM_op1, ↓wM_nil, ↓wM_cons, ↓wM_frzA0, ↓wM_frzA, ↓wM_lookA0, ↓wM_lookA, ↓wM_tup, ↓wM_lst, ↓wM_B, ↓wM_isi, ↓wM_me, ↓wM_sl, ↓wM_noP, ↓wM_part, ↓wM_key, ↓wM_call, ↓wM_argSA0, ↓wM_argSA, ↓wM_argS_fz, ↓wM_argS_ow, ↓wM_argS_nm, ↓wM_mut, ↓wM_yes, ↓wM_rng1, ↓wM_rng2, ↓wM_wkV, ↓wM_wkT, ↓wM_wkL, ↓wM_wk2, ↓wM_wkB, ↓wM_wkC, ↓wM_wkS, ↓wM_wk1, ↓wM_wkLc, ↓wM_wkIf, ↓wM_wkLR, ↓wM_rng3, ↓wM_zip, ↓wM_rga1, ↓wM_rga2, ↓wM_lrg, ↓wM_trg, ↓wM_not, ↓wM_tru, ↓wM_and, ↓wM_or, ↓wM_andV, ↓wM_orV, ↓wM_notV, ↓wM_ifE, ↓wM_chain, ↓wM_chainT, ↓wM_dispN, ↓wM_pairs0, ↓wM_pairs, ↓wM_new, ↓wO_gsC, ↓wS_seq, ↓wS_pass, ↓wS_brk, ↓wS_cnt, ↓wS_ret, ↓wS_drop, ↓wS_if, ↓wS_set, ↓wS_asg, ↓wS_par, ↓wS_put, ↓wS_augS, ↓wS_aug, ↓wM_run', wO_some, varK_fz, varK_ow, varK_lk, lookK_fz, lookK_ow, lookK_lk, frzK_fz, frzK_ow, frzK_lk, argK_fz, argK_owt, argK_owf, argK_lkt, argK_lkf, mutK_ow', mutO_ow, putK'_ow, getK_ow, fzO_fz, augK_fz, intD_int, retK_fz, retK_ow, retK_nm, retO_fz, retO_ow, retO_lk, setR_fz, setR_ow, setR_nm, setK_fz, setK_ow, setK_lk, tru_b, tru_n, tru_l, tru_t, key_i, key_s, gIAdd_ii, gISub_ii, gPow_18, gN_ok, gsN_ok, gT_ok, setQs_nil, setQs_fz, setQs_ow, outP_t, outP_f, outP_n, wkO_fz, wkO_ow, wkO_lk, wk_fz, wk_ow, wk_nm, items_l, items_t, unl_none, unl_some, unlK_lk, callK_R, callR_fz, callR_ow, rest_nil, rest_cons, restK_some, wipe_nil, wipe_cons, gAdd_ii, gSub_ii, gMul_l, gMul_r, gDiv_ii, gMod_ii, gNeg_i, gEq_ii, gEq_ss, gEq_bb, gNe_ii, gNe_ss, gLt_ii, gLe_ii, gGt_ii, gGe_ii, gIx_l0, gIx_t0, gIx_l1, gIx_t1, gIx_l2, gIx_t2, gIx_t3, gIx_tz, gRev_l, gRev_t, zipD_ll, zipD_tl, zipD_lt, zipD_tt, int1_ok, int2_ok, gLen_l, gLen_t, gLen_d, gAbs_i, gAppend_l, gExtend_l, gInt_i, gTuple_l, gTuple_t, gList_l, gList_t, gMax_ii, gMin_ii, gSum_l, gIs_none, isLst, isT, isOw, List.getElem?_cons_zero, List.getElem?_cons_succ, List.length_cons, List.length_nil, List.cons_append, List.nil_append, List.replicate, List.set_cons_zero, List.set_cons_succ, true_and, and_true, if_true, List.map_cons, List.map_nil, Nat.reduceAdd, Nat.reduceSub, Nat.reduceLT, Nat.reduceLeDiff, List.length_set, List.length_map, List.length_append, List.length_range, reduceIte, reduceDIte, Bool.false_eq_true, slotOf, wb, Option.getD_some, nmOk, heldR, List.all_cons, List.all_nil, List.any_cons, List.any_nil, isNm, Bool.and_true, Bool.true_and, Bool.false_and, Bool.and_false, Bool.not_false, Bool.not_true, Bool.or_false, List.map_append, gIx_lz, Int.reduceNeg, e2]
theorem rateat_ok (tb : List P2) (n : Int) (h : Tb tb) (hn : 0 ≤ n) : f_rate_at [.fz (.tuple (tb.map encP)), .fz (.int n)] = .ok (.fz (.int (ra tb n))) [.fz (.tuple (tb.map encP)), .fz (.int n)] := by
  have hl := h.len
  unfold f_rate_at
  apply run_eq
  unfold b_rate_at
  simp (disch := first | omega | (simp only [List.length_map, List.length_append, List.length_cons, List.length_nil, List.length_set, List.length_range, sizeLine_eq]; done) | (simp only [List.length_map, List.length_append, List.length_cons, List.length_nil, List.length_set, List.length_range, sizeLine_eq]; omega)) only [↓wM_bd, ↓wM_pr, ↓wM_opt, ↓wM_C, ↓wM_var, ↓wM_look_fz, ↓wM_look_ow, ↓wM_look_nm, ↓wM_frz_fz, ↓wM_frz_ow, ↓wM_frz_nm, ↓wM_op2, ↓wM_op2T, ↓wO_gB, ↓wM_op1, ↓wM_nil, ↓wM_cons, ↓wM_frzA0, ↓wM_frzA, ↓wM_lookA0, ↓wM_lookA, ↓wM_tup, ↓wM_lst, ↓wM_B, ↓wM_isi, ↓wM_me, ↓wM_sl, ↓wM_noP, ↓wM_part, ↓wM_key, ↓wM_call, ↓wM_argSA0, ↓wM_argSA, ↓wM_argS_fz, ↓wM_argS_ow, ↓wM_argS_nm, ↓wM_mut, ↓wM_yes, ↓wM_rng1, ↓wM_rng2, ↓wM_wkV, ↓wM_wkT, ↓wM_wkL, ↓wM_wk2, ↓wM_wkB, ↓wM_wkC, ↓wM_wkS, ↓wM_wk1, ↓wM_wkLc, ↓wM_wkIf, ↓wM_wkLR, ↓wM_rng3, ↓wM_zip, ↓wM_rga1, ↓wM_rga2, ↓wM_lrg, ↓wM_trg, ↓wM_not, ↓wM_tru, ↓wM_and, ↓wM_or, ↓wM_andV, ↓wM_orV, ↓wM_notV, ↓wM_ifE, ↓wM_chain, ↓wM_chainT, ↓wM_dispN, ↓wM_pairs0, ↓wM_pairs, ↓wM_new, ↓wO_gsC, ↓wS_seq, ↓wS_pass, ↓wS_brk, ↓wS_cnt, ↓wS_ret, ↓wS_drop, ↓wS_if, ↓wS_set, ↓wS_asg, ↓wS_par, ↓wS_put, ↓wS_augS, ↓wS_aug, ↓wM_run', wO_some, varK_fz, varK_ow, varK_lk, lookK_fz, lookK_ow, lookK_lk, frzK_fz, frzK_ow, frzK_lk, argK_fz, argK_owt, argK_owf, argK_lkt, argK_lkf, mutK_ow', mutO_ow, putK'_ow, getK_ow, fzO_fz, augK_fz, intD_int, retK_fz, retK_ow, retK_nm, retO_fz, retO_ow, retO_lk, setR_fz, setR_ow, setR_nm, setK_fz, setK_ow, setK_lk, tru_b, tru_n, tru_l, tru_t, key_i, key_s, gIAdd_ii, gISub_ii, gPow_18, gN_ok, gsN_ok, gT_ok, setQs_nil, setQs_fz, setQs_ow, outP_t, outP_f, outP_n, wkO_fz, wkO_ow, wkO_lk, wk_fz, wk_ow, wk_nm, items_l, items_t, unl_none, unl_some, unlK_lk, callK_R, callR_fz, callR_ow, rest_nil, rest_cons, restK_some, wipe_nil, wipe_cons, gAdd_ii, gSub_ii, gMul_l, gMul_r, gDiv_ii, gMod_ii, gNeg_i, gEq_ii, gEq_ss, gEq_bb, gNe_ii, gNe_ss, gLt_ii, gLe_ii, gGt_ii, gGe_ii, gIx_l0, gIx_t0, gIx_l1, gIx_t1, gIx_l2, gIx_t2, gIx_t3, gIx_tz, gRev_l, gRev_t, zipD_ll, zipD_tl, zipD_lt, zipD_tt, int1_ok, int2_ok, gLen_l, gLen_t, gLen_d, gAbs_i, gAppend_l, gExtend_l, gInt_i, gTuple_l, gTuple_t, gList_l, gList_t, gMax_ii, gMin_ii, gSum_l, gIs_none, isLst, isT, isOw, List.getElem?_cons_zero, List.getElem?_cons_succ, List.length_cons, List.length_nil, List.cons_append, List.nil_append, List.replicate, List.set_cons_zero, List.set_cons_succ, true_and, and_true, if_true, List.map_cons, List.map_nil, Nat.reduceAdd, Nat.reduceSub, Nat.reduceLT, Nat.reduceLeDiff, List.length_set, List.length_map, List.length_append, List.length_range, reduceIte, reduceDIte, Bool.false_eq_true, slotOf, wb, Option.getD_some, nmOk, heldR, List.all_cons, List.all_nil, List.any_cons, List.any_nil, isNm, Bool.and_true, Bool.true_and, Bool.false_and, Bool.and_false, Bool.not_false, Bool.not_true, Bool.or_false]
  refine wM_lcM (enc := encP) (xs := tb) (l := none) (by simp (disch := first | omega | (simp only [List.length_map, List.length_append, List.length_cons, List.length_nil, List.length_set, List.length_range, sizeLine_eq]; done) | (simp only [List.length_map, List.length_append, List.length_cons, List.length_nil, List.length_set, List.length_range, sizeLine_eq]; omega)) only [↓wM_bd, ↓wM_pr, ↓wM_opt, ↓wM_C, ↓wM_var, ↓wM_look_fz, ↓wM_look_ow, ↓wM_look_nm, ↓wM_frz_fz, ↓wM_frz_ow, ↓wM_frz_nm, ↓wM_op2, ↓wM_op2T, ↓wO_gB, ↓wM_op1, ↓wM_nil, ↓wM_cons, ↓wM_frzA0, ↓wM_frzA, ↓wM_lookA0, ↓wM_lookA, ↓wM_tup, ↓wM_lst, ↓wM_B, ↓wM_isi, ↓wM_me, ↓wM_sl, ↓wM_noP, ↓wM_part, ↓wM_key, ↓wM_call, ↓wM_argSA0, ↓wM_argSA, ↓wM_argS_fz, ↓wM_argS_ow, ↓wM_argS_nm, ↓wM_mut, ↓wM_yes, ↓wM_rng1, ↓wM_rng2, ↓wM_wkV, ↓wM_wkT, ↓wM_wkL, ↓wM_wk2, ↓wM_wkB, ↓wM_wkC, ↓wM_wkS, ↓wM_wk1, ↓wM_wkLc, ↓wM_wkIf, ↓wM_wkLR, ↓wM_rng3, ↓wM_zip, ↓wM_rga1, ↓wM_rga2, ↓wM_lrg, ↓wM_trg, ↓wM_not, ↓wM_tru, ↓wM_and, ↓wM_or, ↓wM_andV, ↓wM_orV, ↓wM_notV, ↓wM_ifE, ↓wM_chain, ↓wM_chainT, ↓wM_dispN, ↓wM_pairs0, ↓wM_pairs, ↓wM_new, ↓wO_gsC, ↓wS_seq, ↓wS_pass, ↓wS_brk, ↓wS_cnt, ↓wS_ret, ↓wS_drop, ↓wS_if, ↓wS_set, ↓wS_asg, ↓wS_par, ↓wS_put, ↓wS_augS, ↓wS_aug, ↓wM_run', wO_some, varK_fz, varK_ow, varK_lk, lookK_fz, lookK_ow, lookK_lk, frzK_fz, frzK_ow, frzK_lk, argK_fz, argK_owt, argK_owf, argK_lkt, argK_lkf, mutK_ow', mutO_ow, putK'_ow, getK_ow, fzO_fz, augK_fz, intD_int, retK_fz, retK_ow, retK_nm, retO_fz, retO_ow, retO_lk, setR_fz, setR_ow, setR_nm, setK_fz, setK_ow, setK_lk, tru_b, tru_n, tru_l, tru_t, key_i, key_s, gIAdd_ii, gISub_ii, gPow_18, gN_ok, gsN_ok, gT_ok, setQs_nil, setQs_fz, setQs_ow, outP_t, outP_f, outP_n, wkO_fz, wkO_ow, wkO_lk, wk_fz, wk_ow, wk_nm, items_l, items_t, unl_none, unl_some, unlK_lk, callK_R, callR_fz, callR_ow, rest_nil, rest_cons, restK_some, wipe_nil, wipe_cons, gAdd_ii, gSub_ii, gMul_l, gMul_r, gDiv_ii, gMod_ii, gNeg_i, gEq_ii, gEq_ss, gEq_bb, gNe_ii, gNe_ss, gLt_ii, gLe_ii, gGt_ii, gGe_ii, gIx_l0, gIx_t0, gIx_l1, gIx_t1, gIx_l2, gIx_t2, gIx_t3, gIx_tz, gRev_l, gRev_t, zipD_ll, zipD_tl, zipD_lt, zipD_tt, int1_ok, int2_ok, gLen_l, gLen_t, gLen_d, gAbs_i, gAppend_l, gExtend_l, gInt_i, gTuple_l, gTuple_t, gList_l, gList_t, gMax_ii, gMin_ii, gSum_l, gIs_none, isLst, isT, isOw, List.getElem?_cons_zero, List.getElem?_cons_succ, List.length_cons, List.length_nil, List.cons_append, List.nil_append, List.replicate, List.set_cons_zero, List.set_cons_succ, true_and, and_true, if_true, List.map_cons, List.map_nil, Nat.reduceAdd, Nat.reduceSub, Nat.reduceLT, Nat.reduceLeDiff, List.length_set, List.length_map, List.length_append, List.length_range, reduceIte, reduceDIte, Bool.false_eq_true, slotOf, wb, Option.getD_some, nmOk, heldR, List.all_cons, List.all_nil, List.any_cons, List.any_nil, isNm, Bool.and_true, Bool.true_and, Bool.false_and, Bool.and_false, Bool.not_false, Bool.not_true, Bool.or_false, rng1_ok, rng2_ok] <;> (first | exact ⟨rfl, rfl⟩ | exact rfl)) (fun t => decide (t.1 ≤ n)) (fun t => .int t.2) (by rw [sizeLine_eq]; omega) (fun t _ => ?_) ?_
  · rw [show encP t = .tuple [.int t.1, .int t.2] from rfl]
    simp (disch := first | omega | (simp only [List.length_map, List.length_append, List.length_cons, List.length_nil, List.length_set, List.length_range, sizeLine_eq]; done) | (simp only [List.length_map, List.length_append, List.length_cons, List.length_nil, List.length_set, List.length_range, sizeLine_eq]; omega)) only [↓wM_bd, ↓wM_pr, ↓wM_opt, ↓wM_C, ↓wM_var, ↓wM_look_fz, ↓wM_look_ow, ↓wM_look_nm, ↓wM_frz_fz, ↓wM_frz_ow, ↓wM_frz_nm, ↓wM_op2, ↓wM_op2T, ↓wO_gB, ↓wM_op1, ↓wM_nil, ↓wM_cons, ↓wM_frzA0, ↓wM_frzA, ↓wM_lookA0, ↓wM_lookA, ↓wM_tup, ↓wM_lst, ↓wM_B, ↓wM_isi, ↓wM_me, ↓wM_sl, ↓wM_noP, ↓wM_part, ↓wM_key, ↓wM_call, ↓wM_argSA0, ↓wM_argSA, ↓wM_argS_fz, ↓wM_argS_ow, ↓wM_argS_nm, ↓wM_mut, ↓wM_yes, ↓wM_rng1, ↓wM_rng2, ↓wM_wkV, ↓wM_wkT, ↓wM_wkL, ↓wM_wk2, ↓wM_wkB, ↓wM_wkC, ↓wM_wkS, ↓wM_wk1, ↓wM_wkLc, ↓wM_wkIf, ↓wM_wkLR, ↓wM_rng3, ↓wM_zip, ↓wM_rga1, ↓wM_rga2, ↓wM_lrg, ↓wM_trg, ↓wM_not, ↓wM_tru, ↓wM_and, ↓wM_or, ↓wM_andV, ↓wM_orV, ↓wM_notV, ↓wM_ifE, ↓wM_chain, ↓wM_chainT, ↓wM_dispN, ↓wM_pairs0, ↓wM_pairs, ↓wM_new, ↓wO_gsC, ↓wS_seq, ↓wS_pass, ↓wS_brk, ↓wS_cnt, ↓wS_ret, ↓wS_drop, ↓wS_if, ↓wS_set, ↓wS_asg, ↓wS_par, ↓wS_put, ↓wS_augS, ↓wS_aug, ↓wM_run', wO_some, varK_fz, varK_ow, varK_lk, lookK_fz, lookK_ow, lookK_lk, frzK_fz, frzK_ow, frzK_lk, argK_fz, argK_owt, argK_owf, argK_lkt, argK_lkf, mutK_ow', mutO_ow, putK'_ow, getK_ow, fzO_fz, augK_fz, intD_int, retK_fz, retK_ow, retK_nm, retO_fz, retO_ow, retO_lk, setR_fz, setR_ow, setR_nm, setK_fz, setK_ow, setK_lk, tru_b, tru_n, tru_l, tru_t, key_i, key_s, gIAdd_ii, gISub_ii, gPow_18, gN_ok, gsN_ok, gT_ok, setQs_nil, setQs_fz, setQs_ow, outP_t, outP_f, outP_n, wkO_fz, wkO_ow, wkO_lk, wk_fz, wk_ow, wk_nm, items_l, items_t, unl_none, unl_some, unlK_lk, callK_R, callR_fz, callR_ow, rest_nil, rest_cons, restK_some, wipe_nil, wipe_cons, gAdd_ii, gSub_ii, gMul_l, gMul_r, gDiv_ii, gMod_ii, gNeg_i, gEq_ii, gEq_ss, gEq_bb, gNe_ii, gNe_ss, gLt_ii, gLe_ii, gGt_ii, gGe_ii, gIx_l0, gIx_t0, gIx_l1, gIx_t1, gIx_l2, gIx_t2, gIx_t3, gIx_tz, gRev_l, gRev_t, zipD_ll, zipD_tl, zipD_lt, zipD_tt, int1_ok, int2_ok, gLen_l, gLen_t, gLen_d, gAbs_i, gAppend_l, gExtend_l, gInt_i, gTuple_l, gTuple_t, gList_l, gList_t, gMax_ii, gMin_ii, gSum_l, gIs_none, isLst, isT, isOw, List.getElem?_cons_zero, List.getElem?_cons_succ, List.length_cons, List.length_nil, List.cons_append, List.nil_append, List.replicate, List.set_cons_zero, List.set_cons_succ, true_and, and_true, if_true, List.map_cons, List.map_nil, Nat.reduceAdd, Nat.reduceSub, Nat.reduceLT, Nat.reduceLeDiff, List.length_set, List.length_map, List.length_append, List.length_range, reduceIte, reduceDIte, Bool.false_eq_true, slotOf, wb, Option.getD_some, nmOk, heldR, List.all_cons, List.all_nil, List.any_cons, List.any_nil, isNm, Bool.and_true, Bool.true_and, Bool.false_and, Bool.and_false, Bool.not_false, Bool.not_true, Bool.or_false]
    by_cases h1 : t.1 ≤ n
    · simp (disch := first | omega | (simp only [List.length_map, List.length_append, List.length_cons, List.length_nil, List.length_set, List.length_range, sizeLine_eq]; done) | (simp only [List.length_map, List.length_append, List.length_cons, List.length_nil, List.length_set, List.length_range, sizeLine_eq]; omega)) only [↓wM_bd, ↓wM_pr, ↓wM_opt, ↓wM_C, ↓wM_var, ↓wM_look_fz, ↓wM_look_ow, ↓wM_look_nm, ↓wM_frz_fz, ↓wM_frz_ow, ↓wM_frz_nm, ↓wM_op2, ↓wM_op2T, ↓wO_gB, ↓wM_op1, ↓wM_nil, ↓wM_cons, ↓wM_frzA0, ↓wM_frzA, ↓wM_lookA0, ↓wM_lookA, ↓wM_tup, ↓wM_lst, ↓wM_B, ↓wM_isi, ↓wM_me, ↓wM_sl, ↓wM_noP, ↓wM_part, ↓wM_key, ↓wM_call, ↓wM_argSA0, ↓wM_argSA, ↓wM_argS_fz, ↓wM_argS_ow, ↓wM_argS_nm, ↓wM_mut, ↓wM_yes, ↓wM_rng1, ↓wM_rng2, ↓wM_wkV, ↓wM_wkT, ↓wM_wkL, ↓wM_wk2, ↓wM_wkB, ↓wM_wkC, ↓wM_wkS, ↓wM_wk1, ↓wM_wkLc, ↓wM_wkIf, ↓wM_wkLR, ↓wM_rng3, ↓wM_zip, ↓wM_rga1, ↓wM_rga2, ↓wM_lrg, ↓wM_trg, ↓wM_not, ↓wM_tru, ↓wM_and, ↓wM_or, ↓wM_andV, ↓wM_orV, ↓wM_notV, ↓wM_ifE, ↓wM_chain, ↓wM_chainT, ↓wM_dispN, ↓wM_pairs0, ↓wM_pairs, ↓wM_new, ↓wO_gsC, ↓wS_seq, ↓wS_pass, ↓wS_brk, ↓wS_cnt, ↓wS_ret, ↓wS_drop, ↓wS_if, ↓wS_set, ↓wS_asg, ↓wS_par, ↓wS_put, ↓wS_augS, ↓wS_aug, ↓wM_run', wO_some, varK_fz, varK_ow, varK_lk, lookK_fz, lookK_ow, lookK_lk, frzK_fz, frzK_ow, frzK_lk, argK_fz, argK_owt, argK_owf, argK_lkt, argK_lkf, mutK_ow', mutO_ow, putK'_ow, getK_ow, fzO_fz, augK_fz, intD_int, retK_fz, retK_ow, retK_nm, retO_fz, retO_ow, retO_lk, setR_fz, setR_ow, setR_nm, setK_fz, setK_ow, setK_lk, tru_b, tru_n, tru_l, tru_t, key_i, key_s, gIAdd_ii, gISub_ii, gPow_18, gN_ok, gsN_ok, gT_ok, setQs_nil, setQs_fz, setQs_ow, outP_t, outP_f, outP_n, wkO_fz, wkO_ow, wkO_lk, wk_fz, wk_ow, wk_nm, items_l, items_t, unl_none, unl_some, unlK_lk, callK_R, callR_fz, callR_ow, rest_nil, rest_cons, restK_some, wipe_nil, wipe_cons, gAdd_ii, gSub_ii, gMul_l, gMul_r, gDiv_ii, gMod_ii, gNeg_i, gEq_ii, gEq_ss, gEq_bb, gNe_ii, gNe_ss, gLt_ii, gLe_ii, gGt_ii, gGe_ii, gIx_l0, gIx_t0, gIx_l1, gIx_t1, gIx_l2, gIx_t2, gIx_t3, gIx_tz, gRev_l, gRev_t, zipD_ll, zipD_tl, zipD_lt, zipD_tt, int1_ok, int2_ok, gLen_l, gLen_t, gLen_d, gAbs_i, gAppend_l, gExtend_l, gInt_i, gTuple_l, gTuple_t, gList_l, gList_t, gMax_ii, gMin_ii, gSum_l, gIs_none, isLst, isT, isOw, List.getElem?_cons_zero, List.getElem?_cons_succ, List.length_cons, List.length_nil, List.cons_append, List.nil_append, List.replicate, List.set_cons_zero, List.set_cons_succ, true_and, and_true, if_true, List.map_cons, List.map_nil, Nat.reduceAdd, Nat.reduceSub, Nat.reduceLT, Nat.reduceLeDiff, List.length_set, List.length_map, List.length_append, List.length_range, reduceIte, reduceDIte, Bool.false_eq_true, slotOf, wb, Option.getD_some, nmOk, heldR, List.all_cons, List.all_nil, List.any_cons, List.any_nil, isNm, Bool.and_true, Bool.true_and, Bool.false_and, Bool.and_false, Bool.not_false, Bool.not_true, Bool.or_false, h1, decide_true]
    · simp (disch := first | omega | (simp only [List.length_map, List.length_append, List.length_cons, List.length_nil, List.length_set, List.length_range, sizeLine_eq]; done) | (simp only [List.length_map, List.length_append, List.length_cons, List.length_nil, List.length_set, List.length_range, sizeLine_eq]; omega)) only [↓wM_bd, ↓wM_pr, ↓wM_opt, ↓wM_C, ↓wM_var, ↓wM_look_fz, ↓wM_look_ow, ↓wM_look_nm, ↓wM_frz_fz, ↓wM_frz_ow, ↓wM_frz_nm, ↓wM_op2, ↓wM_op2T, ↓wO_gB, ↓wM_op1, ↓wM_nil, ↓wM_cons, ↓wM_frzA0, ↓wM_frzA, ↓wM_lookA0, ↓wM_lookA, ↓wM_tup, ↓wM_lst, ↓wM_B, ↓wM_isi, ↓wM_me, ↓wM_sl, ↓wM_noP, ↓wM_part, ↓wM_key, ↓wM_call, ↓wM_argSA0, ↓wM_argSA, ↓wM_argS_fz, ↓wM_argS_ow, ↓wM_argS_nm, ↓wM_mut, ↓wM_yes, ↓wM_rng1, ↓wM_rng2, ↓wM_wkV, ↓wM_wkT, ↓wM_wkL, ↓wM_wk2, ↓wM_wkB, ↓wM_wkC, ↓wM_wkS, ↓wM_wk1, ↓wM_wkLc, ↓wM_wkIf, ↓wM_wkLR, ↓wM_rng3, ↓wM_zip, ↓wM_rga1, ↓wM_rga2, ↓wM_lrg, ↓wM_trg, ↓wM_not, ↓wM_tru, ↓wM_and, ↓wM_or, ↓wM_andV, ↓wM_orV, ↓wM_notV, ↓wM_ifE, ↓wM_chain, ↓wM_chainT, ↓wM_dispN, ↓wM_pairs0, ↓wM_pairs, ↓wM_new, ↓wO_gsC, ↓wS_seq, ↓wS_pass, ↓wS_brk, ↓wS_cnt, ↓wS_ret, ↓wS_drop, ↓wS_if, ↓wS_set, ↓wS_asg, ↓wS_par, ↓wS_put, ↓wS_augS, ↓wS_aug, ↓wM_run', wO_some, varK_fz, varK_ow, varK_lk, lookK_fz, lookK_ow, lookK_lk, frzK_fz, frzK_ow, frzK_lk, argK_fz, argK_owt, argK_owf, argK_lkt, argK_lkf, mutK_ow', mutO_ow, putK'_ow, getK_ow, fzO_fz, augK_fz, intD_int, retK_fz, retK_ow, retK_nm, retO_fz, retO_ow, retO_lk, setR_fz, setR_ow, setR_nm, setK_fz, setK_ow, setK_lk, tru_b, tru_n, tru_l, tru_t, key_i, key_s, gIAdd_ii, gISub_ii, gPow_18, gN_ok, gsN_ok, gT_ok, setQs_nil, setQs_fz, setQs_ow, outP_t, outP_f, outP_n, wkO_fz, wkO_ow, wkO_lk, wk_fz, wk_ow, wk_nm, items_l, items_t, unl_none, unl_some, unlK_lk, callK_R, callR_fz, callR_ow, rest_nil, rest_cons, restK_some, wipe_nil, wipe_cons, gAdd_ii, gSub_ii, gMul_l, gMul_r, gDiv_ii, gMod_ii, gNeg_i, gEq_ii, gEq_ss, gEq_bb, gNe_ii, gNe_ss, gLt_ii, gLe_ii, gGt_ii, gGe_ii, gIx_l0, gIx_t0, gIx_l1, gIx_t1, gIx_l2, gIx_t2, gIx_t3, gIx_tz, gRev_l, gRev_t, zipD_ll, zipD_tl, zipD_lt, zipD_tt, int1_ok, int2_ok, gLen_l, gLen_t, gLen_d, gAbs_i, gAppend_l, gExtend_l, gInt_i, gTuple_l, gTuple_t, gList_l, gList_t, gMax_ii, gMin_ii, gSum_l, gIs_none, isLst, isT, isOw, List.getElem?_cons_zero, List.getElem?_cons_succ, List.length_cons, List.length_nil, List.cons_append, List.nil_append, List.replicate, List.set_cons_zero, List.set_cons_succ, true_and, and_true, if_true, List.map_cons, List.map_nil, Nat.reduceAdd, Nat.reduceSub, Nat.reduceLT, Nat.reduceLeDiff, List.length_set, List.length_map, List.length_append, List.length_range, reduceIte, reduceDIte, Bool.false_eq_true, slotOf, wb, Option.getD_some, nmOk, heldR, List.all_cons, List.all_nil, List.any_cons, List.any_nil, isNm, Bool.and_true, Bool.true_and, Bool.false_and, Bool.and_false, Bool.not_false, Bool.not_true, Bool.or_false, h1, decide_false]
  · obtain ⟨ini, x, e, e2, _⟩ := under_last h hn
    rw [show tb.filter (fun t => decide (t.1 ≤ n)) = ini ++ [x] from e]
    simp (disch := first | omega | (simp only [List.length_map, List.length_append, List.length_cons, List.length_nil, List.length_set, List.length_range, sizeLine_eq]; done) | (simp only [List.length_map, List.length_append, List.length_cons, List.length_nil, List.length_set, List.length_range, sizeLine_eq]; omega)) only [↓wM_bd, ↓wM_pr, ↓wM_opt, ↓wM_C, ↓wM_var, ↓wM_look_fz, ↓wM_look_ow, ↓wM_look_nm, ↓wM_frz_fz, ↓wM_frz_ow, ↓wM_frz_nm, ↓wM_op2, ↓wM_op2T, ↓wO_gB, ↓wM_op1, ↓wM_nil, ↓wM_cons, ↓wM_frzA0, ↓wM_frzA, ↓wM_lookA0, ↓wM_lookA, ↓wM_tup, ↓wM_lst, ↓wM_B, ↓wM_isi, ↓wM_me, ↓wM_sl, ↓wM_noP, ↓wM_part, ↓wM_key, ↓wM_call, ↓wM_argSA0, ↓wM_argSA, ↓wM_argS_fz, ↓wM_argS_ow, ↓wM_argS_nm, ↓wM_mut, ↓wM_yes, ↓wM_rng1, ↓wM_rng2, ↓wM_wkV, ↓wM_wkT, ↓wM_wkL, ↓wM_wk2, ↓wM_wkB, ↓wM_wkC, ↓wM_wkS, ↓wM_wk1, ↓wM_wkLc, ↓wM_wkIf, ↓wM_wkLR, ↓wM_rng3, ↓wM_zip, ↓wM_rga1, ↓wM_rga2, ↓wM_lrg, ↓wM_trg, ↓wM_not, ↓wM_tru, ↓wM_and, ↓wM_or, ↓wM_andV, ↓wM_orV, ↓wM_notV, ↓wM_ifE, ↓wM_chain, ↓wM_chainT, ↓wM_dispN, ↓wM_pairs0, ↓wM_pairs, ↓wM_new, ↓wO_gsC, ↓wS_seq, ↓wS_pass, ↓wS_brk, ↓wS_cnt, ↓wS_ret, ↓wS_drop, ↓wS_if, ↓wS_set, ↓wS_asg, ↓wS_par, ↓wS_put, ↓wS_augS, ↓wS_aug, ↓wM_run', wO_some, varK_fz, varK_ow, varK_lk, lookK_fz, lookK_ow, lookK_lk, frzK_fz, frzK_ow, frzK_lk, argK_fz, argK_owt, argK_owf, argK_lkt, argK_lkf, mutK_ow', mutO_ow, putK'_ow, getK_ow, fzO_fz, augK_fz, intD_int, retK_fz, retK_ow, retK_nm, retO_fz, retO_ow, retO_lk, setR_fz, setR_ow, setR_nm, setK_fz, setK_ow, setK_lk, tru_b, tru_n, tru_l, tru_t, key_i, key_s, gIAdd_ii, gISub_ii, gPow_18, gN_ok, gsN_ok, gT_ok, setQs_nil, setQs_fz, setQs_ow, outP_t, outP_f, outP_n, wkO_fz, wkO_ow, wkO_lk, wk_fz, wk_ow, wk_nm, items_l, items_t, unl_none, unl_some, unlK_lk, callK_R, callR_fz, callR_ow, rest_nil, rest_cons, restK_some, wipe_nil, wipe_cons, gAdd_ii, gSub_ii, gMul_l, gMul_r, gDiv_ii, gMod_ii, gNeg_i, gEq_ii, gEq_ss, gEq_bb, gNe_ii, gNe_ss, gLt_ii, gLe_ii, gGt_ii, gGe_ii, gIx_l0, gIx_t0, gIx_l1, gIx_t1, gIx_l2, gIx_t2, gIx_t3, gIx_tz, gRev_l, gRev_t, zipD_ll, zipD_tl, zipD_lt, zipD_tt, int1_ok, int2_ok, gLen_l, gLen_t, gLen_d, gAbs_i, gAppend_l, gExtend_l, gInt_i, gTuple_l, gTuple_t, gList_l, gList_t, gMax_ii, gMin_ii, gSum_l, gIs_none, isLst, isT, isOw, List.getElem?_cons_zero, List.getElem?_cons_succ, List.length_cons, List.length_nil, List.cons_append, List.nil_append, List.replicate, List.set_cons_zero, List.set_cons_succ, true_and, and_true, if_true, List.map_cons, List.map_nil, Nat.reduceAdd, Nat.reduceSub, Nat.reduceLT, Nat.reduceLeDiff, List.length_set, List.length_map, List.length_append, List.length_range, reduceIte, reduceDIte, Bool.false_eq_true, slotOf, wb, Option.getD_some, nmOk, heldR, List.all_cons, List.all_nil, List.any_cons, List.any_nil, isNm, Bool.and_true, Bool.true_and, Bool.false_and, Bool.and_false, Bool.not_false, Bool.not_true, Bool.or_false, List.map_append, gIx_lz, Int.reduceNeg, e2]
theorem lowed_ok (tb : List P2) (n : Nat) (h : Tb tb) (hn : n ≤ 1000) : f__law_owed [.fz (.tuple (tb.map encP)), .fz (.int (n : Nat))] = .ok (.fz (.int (sumR tb n))) [.fz (.tuple (tb.map encP)), .fz (.int (n : Nat))] := by
  unfold f__law_owed
  apply run_eq
  unfold b__law_owed sumR
  simp (disch := first | omega | (simp only [List.length_map, List.length_append, List.length_cons, List.length_nil, List.length_set, List.length_range, sizeLine_eq]; done) | (simp only [List.length_map, List.length_append, List.length_cons, List.length_nil, List.length_set, List.length_range, sizeLine_eq]; omega)) only [↓wM_bd, ↓wM_pr, ↓wM_opt, ↓wM_C, ↓wM_var, ↓wM_look_fz, ↓wM_look_ow, ↓wM_look_nm, ↓wM_frz_fz, ↓wM_frz_ow, ↓wM_frz_nm, ↓wM_op2, ↓wM_op2T, ↓wO_gB, ↓wM_op1, ↓wM_nil, ↓wM_cons, ↓wM_frzA0, ↓wM_frzA, ↓wM_lookA0, ↓wM_lookA, ↓wM_tup, ↓wM_lst, ↓wM_B, ↓wM_isi, ↓wM_me, ↓wM_sl, ↓wM_noP, ↓wM_part, ↓wM_key, ↓wM_call, ↓wM_argSA0, ↓wM_argSA, ↓wM_argS_fz, ↓wM_argS_ow, ↓wM_argS_nm, ↓wM_mut, ↓wM_yes, ↓wM_rng1, ↓wM_rng2, ↓wM_wkV, ↓wM_wkT, ↓wM_wkL, ↓wM_wk2, ↓wM_wkB, ↓wM_wkC, ↓wM_wkS, ↓wM_wk1, ↓wM_wkLc, ↓wM_wkIf, ↓wM_wkLR, ↓wM_rng3, ↓wM_zip, ↓wM_rga1, ↓wM_rga2, ↓wM_lrg, ↓wM_trg, ↓wM_not, ↓wM_tru, ↓wM_and, ↓wM_or, ↓wM_andV, ↓wM_orV, ↓wM_notV, ↓wM_ifE, ↓wM_chain, ↓wM_chainT, ↓wM_dispN, ↓wM_pairs0, ↓wM_pairs, ↓wM_new, ↓wO_gsC, ↓wS_seq, ↓wS_pass, ↓wS_brk, ↓wS_cnt, ↓wS_ret, ↓wS_drop, ↓wS_if, ↓wS_set, ↓wS_asg, ↓wS_par, ↓wS_put, ↓wS_augS, ↓wS_aug, ↓wM_run', wO_some, varK_fz, varK_ow, varK_lk, lookK_fz, lookK_ow, lookK_lk, frzK_fz, frzK_ow, frzK_lk, argK_fz, argK_owt, argK_owf, argK_lkt, argK_lkf, mutK_ow', mutO_ow, putK'_ow, getK_ow, fzO_fz, augK_fz, intD_int, retK_fz, retK_ow, retK_nm, retO_fz, retO_ow, retO_lk, setR_fz, setR_ow, setR_nm, setK_fz, setK_ow, setK_lk, tru_b, tru_n, tru_l, tru_t, key_i, key_s, gIAdd_ii, gISub_ii, gPow_18, gN_ok, gsN_ok, gT_ok, setQs_nil, setQs_fz, setQs_ow, outP_t, outP_f, outP_n, wkO_fz, wkO_ow, wkO_lk, wk_fz, wk_ow, wk_nm, items_l, items_t, unl_none, unl_some, unlK_lk, callK_R, callR_fz, callR_ow, rest_nil, rest_cons, restK_some, wipe_nil, wipe_cons, gAdd_ii, gSub_ii, gMul_l, gMul_r, gDiv_ii, gMod_ii, gNeg_i, gEq_ii, gEq_ss, gEq_bb, gNe_ii, gNe_ss, gLt_ii, gLe_ii, gGt_ii, gGe_ii, gIx_l0, gIx_t0, gIx_l1, gIx_t1, gIx_l2, gIx_t2, gIx_t3, gIx_tz, gRev_l, gRev_t, zipD_ll, zipD_tl, zipD_lt, zipD_tt, int1_ok, int2_ok, gLen_l, gLen_t, gLen_d, gAbs_i, gAppend_l, gExtend_l, gInt_i, gTuple_l, gTuple_t, gList_l, gList_t, gMax_ii, gMin_ii, gSum_l, gIs_none, isLst, isT, isOw, List.getElem?_cons_zero, List.getElem?_cons_succ, List.length_cons, List.length_nil, List.cons_append, List.nil_append, List.replicate, List.set_cons_zero, List.set_cons_succ, true_and, and_true, if_true, List.map_cons, List.map_nil, Nat.reduceAdd, Nat.reduceSub, Nat.reduceLT, Nat.reduceLeDiff, List.length_set, List.length_map, List.length_append, List.length_range, reduceIte, reduceDIte, Bool.false_eq_true, slotOf, wb, Option.getD_some, nmOk, heldR, List.all_cons, List.all_nil, List.any_cons, List.any_nil, isNm, Bool.and_true, Bool.true_and, Bool.false_and, Bool.and_false, Bool.not_false, Bool.not_true, Bool.or_false]
  refine wM_lcY (enc := fun k : Nat => .int (k : Nat)) (xs := List.range n) (l := none) (by
      simp (disch := first | omega | (simp only [List.length_map, List.length_append, List.length_cons, List.length_nil, List.length_set, List.length_range, sizeLine_eq]; done) | (simp only [List.length_map, List.length_append, List.length_cons, List.length_nil, List.length_set, List.length_range, sizeLine_eq]; omega)) only [↓wM_bd, ↓wM_pr, ↓wM_opt, ↓wM_C, ↓wM_var, ↓wM_look_fz, ↓wM_look_ow, ↓wM_look_nm, ↓wM_frz_fz, ↓wM_frz_ow, ↓wM_frz_nm, ↓wM_op2, ↓wM_op2T, ↓wO_gB, ↓wM_op1, ↓wM_nil, ↓wM_cons, ↓wM_frzA0, ↓wM_frzA, ↓wM_lookA0, ↓wM_lookA, ↓wM_tup, ↓wM_lst, ↓wM_B, ↓wM_isi, ↓wM_me, ↓wM_sl, ↓wM_noP, ↓wM_part, ↓wM_key, ↓wM_call, ↓wM_argSA0, ↓wM_argSA, ↓wM_argS_fz, ↓wM_argS_ow, ↓wM_argS_nm, ↓wM_mut, ↓wM_yes, ↓wM_rng1, ↓wM_rng2, ↓wM_wkV, ↓wM_wkT, ↓wM_wkL, ↓wM_wk2, ↓wM_wkB, ↓wM_wkC, ↓wM_wkS, ↓wM_wk1, ↓wM_wkLc, ↓wM_wkIf, ↓wM_wkLR, ↓wM_rng3, ↓wM_zip, ↓wM_rga1, ↓wM_rga2, ↓wM_lrg, ↓wM_trg, ↓wM_not, ↓wM_tru, ↓wM_and, ↓wM_or, ↓wM_andV, ↓wM_orV, ↓wM_notV, ↓wM_ifE, ↓wM_chain, ↓wM_chainT, ↓wM_dispN, ↓wM_pairs0, ↓wM_pairs, ↓wM_new, ↓wO_gsC, ↓wS_seq, ↓wS_pass, ↓wS_brk, ↓wS_cnt, ↓wS_ret, ↓wS_drop, ↓wS_if, ↓wS_set, ↓wS_asg, ↓wS_par, ↓wS_put, ↓wS_augS, ↓wS_aug, ↓wM_run', wO_some, varK_fz, varK_ow, varK_lk, lookK_fz, lookK_ow, lookK_lk, frzK_fz, frzK_ow, frzK_lk, argK_fz, argK_owt, argK_owf, argK_lkt, argK_lkf, mutK_ow', mutO_ow, putK'_ow, getK_ow, fzO_fz, augK_fz, intD_int, retK_fz, retK_ow, retK_nm, retO_fz, retO_ow, retO_lk, setR_fz, setR_ow, setR_nm, setK_fz, setK_ow, setK_lk, tru_b, tru_n, tru_l, tru_t, key_i, key_s, gIAdd_ii, gISub_ii, gPow_18, gN_ok, gsN_ok, gT_ok, setQs_nil, setQs_fz, setQs_ow, outP_t, outP_f, outP_n, wkO_fz, wkO_ow, wkO_lk, wk_fz, wk_ow, wk_nm, items_l, items_t, unl_none, unl_some, unlK_lk, callK_R, callR_fz, callR_ow, rest_nil, rest_cons, restK_some, wipe_nil, wipe_cons, gAdd_ii, gSub_ii, gMul_l, gMul_r, gDiv_ii, gMod_ii, gNeg_i, gEq_ii, gEq_ss, gEq_bb, gNe_ii, gNe_ss, gLt_ii, gLe_ii, gGt_ii, gGe_ii, gIx_l0, gIx_t0, gIx_l1, gIx_t1, gIx_l2, gIx_t2, gIx_t3, gIx_tz, gRev_l, gRev_t, zipD_ll, zipD_tl, zipD_lt, zipD_tt, int1_ok, int2_ok, gLen_l, gLen_t, gLen_d, gAbs_i, gAppend_l, gExtend_l, gInt_i, gTuple_l, gTuple_t, gList_l, gList_t, gMax_ii, gMin_ii, gSum_l, gIs_none, isLst, isT, isOw, List.getElem?_cons_zero, List.getElem?_cons_succ, List.length_cons, List.length_nil, List.cons_append, List.nil_append, List.replicate, List.set_cons_zero, List.set_cons_succ, true_and, and_true, if_true, List.map_cons, List.map_nil, Nat.reduceAdd, Nat.reduceSub, Nat.reduceLT, Nat.reduceLeDiff, List.length_set, List.length_map, List.length_append, List.length_range, reduceIte, reduceDIte, Bool.false_eq_true, slotOf, wb, Option.getD_some, nmOk, heldR, List.all_cons, List.all_nil, List.any_cons, List.any_nil, isNm, Bool.and_true, Bool.true_and, Bool.false_and, Bool.and_false, Bool.not_false, Bool.not_true, Bool.or_false, rng1_ok, Int.toNat_natCast]
      all_goals first | exact ⟨rfl, rfl⟩ | rfl) (fun k : Nat => .int (ra tb k)) (by rw [List.length_range, sizeLine_eq]; omega) (fun k hk => ?_) ?_
  · have e := lrate_ok tb k h (by omega)
    simp (disch := first | omega | (simp only [List.length_map, List.length_append, List.length_cons, List.length_nil, List.length_set, List.length_range, sizeLine_eq]; done) | (simp only [List.length_map, List.length_append, List.length_cons, List.length_nil, List.length_set, List.length_range, sizeLine_eq]; omega)) only [↓wM_bd, ↓wM_pr, ↓wM_opt, ↓wM_C, ↓wM_var, ↓wM_look_fz, ↓wM_look_ow, ↓wM_look_nm, ↓wM_frz_fz, ↓wM_frz_ow, ↓wM_frz_nm, ↓wM_op2, ↓wM_op2T, ↓wO_gB, ↓wM_op1, ↓wM_nil, ↓wM_cons, ↓wM_frzA0, ↓wM_frzA, ↓wM_lookA0, ↓wM_lookA, ↓wM_tup, ↓wM_lst, ↓wM_B, ↓wM_isi, ↓wM_me, ↓wM_sl, ↓wM_noP, ↓wM_part, ↓wM_key, ↓wM_call, ↓wM_argSA0, ↓wM_argSA, ↓wM_argS_fz, ↓wM_argS_ow, ↓wM_argS_nm, ↓wM_mut, ↓wM_yes, ↓wM_rng1, ↓wM_rng2, ↓wM_wkV, ↓wM_wkT, ↓wM_wkL, ↓wM_wk2, ↓wM_wkB, ↓wM_wkC, ↓wM_wkS, ↓wM_wk1, ↓wM_wkLc, ↓wM_wkIf, ↓wM_wkLR, ↓wM_rng3, ↓wM_zip, ↓wM_rga1, ↓wM_rga2, ↓wM_lrg, ↓wM_trg, ↓wM_not, ↓wM_tru, ↓wM_and, ↓wM_or, ↓wM_andV, ↓wM_orV, ↓wM_notV, ↓wM_ifE, ↓wM_chain, ↓wM_chainT, ↓wM_dispN, ↓wM_pairs0, ↓wM_pairs, ↓wM_new, ↓wO_gsC, ↓wS_seq, ↓wS_pass, ↓wS_brk, ↓wS_cnt, ↓wS_ret, ↓wS_drop, ↓wS_if, ↓wS_set, ↓wS_asg, ↓wS_par, ↓wS_put, ↓wS_augS, ↓wS_aug, ↓wM_run', wO_some, varK_fz, varK_ow, varK_lk, lookK_fz, lookK_ow, lookK_lk, frzK_fz, frzK_ow, frzK_lk, argK_fz, argK_owt, argK_owf, argK_lkt, argK_lkf, mutK_ow', mutO_ow, putK'_ow, getK_ow, fzO_fz, augK_fz, intD_int, retK_fz, retK_ow, retK_nm, retO_fz, retO_ow, retO_lk, setR_fz, setR_ow, setR_nm, setK_fz, setK_ow, setK_lk, tru_b, tru_n, tru_l, tru_t, key_i, key_s, gIAdd_ii, gISub_ii, gPow_18, gN_ok, gsN_ok, gT_ok, setQs_nil, setQs_fz, setQs_ow, outP_t, outP_f, outP_n, wkO_fz, wkO_ow, wkO_lk, wk_fz, wk_ow, wk_nm, items_l, items_t, unl_none, unl_some, unlK_lk, callK_R, callR_fz, callR_ow, rest_nil, rest_cons, restK_some, wipe_nil, wipe_cons, gAdd_ii, gSub_ii, gMul_l, gMul_r, gDiv_ii, gMod_ii, gNeg_i, gEq_ii, gEq_ss, gEq_bb, gNe_ii, gNe_ss, gLt_ii, gLe_ii, gGt_ii, gGe_ii, gIx_l0, gIx_t0, gIx_l1, gIx_t1, gIx_l2, gIx_t2, gIx_t3, gIx_tz, gRev_l, gRev_t, zipD_ll, zipD_tl, zipD_lt, zipD_tt, int1_ok, int2_ok, gLen_l, gLen_t, gLen_d, gAbs_i, gAppend_l, gExtend_l, gInt_i, gTuple_l, gTuple_t, gList_l, gList_t, gMax_ii, gMin_ii, gSum_l, gIs_none, isLst, isT, isOw, List.getElem?_cons_zero, List.getElem?_cons_succ, List.length_cons, List.length_nil, List.cons_append, List.nil_append, List.replicate, List.set_cons_zero, List.set_cons_succ, true_and, and_true, if_true, List.map_cons, List.map_nil, Nat.reduceAdd, Nat.reduceSub, Nat.reduceLT, Nat.reduceLeDiff, List.length_set, List.length_map, List.length_append, List.length_range, reduceIte, reduceDIte, Bool.false_eq_true, slotOf, wb, Option.getD_some, nmOk, heldR, List.all_cons, List.all_nil, List.any_cons, List.any_nil, isNm, Bool.and_true, Bool.true_and, Bool.false_and, Bool.and_false, Bool.not_false, Bool.not_true, Bool.or_false, e]
  · rw [show (List.range n).map (fun k : Nat => PyData.int (ra tb k)) = ((List.range n).map fun k : Nat => ra tb k).map .int by rw [List.map_map]; rfl]
    simp (disch := first | omega | (simp only [List.length_map, List.length_append, List.length_cons, List.length_nil, List.length_set, List.length_range, sizeLine_eq]; done) | (simp only [List.length_map, List.length_append, List.length_cons, List.length_nil, List.length_set, List.length_range, sizeLine_eq]; omega)) only [↓wM_bd, ↓wM_pr, ↓wM_opt, ↓wM_C, ↓wM_var, ↓wM_look_fz, ↓wM_look_ow, ↓wM_look_nm, ↓wM_frz_fz, ↓wM_frz_ow, ↓wM_frz_nm, ↓wM_op2, ↓wM_op2T, ↓wO_gB, ↓wM_op1, ↓wM_nil, ↓wM_cons, ↓wM_frzA0, ↓wM_frzA, ↓wM_lookA0, ↓wM_lookA, ↓wM_tup, ↓wM_lst, ↓wM_B, ↓wM_isi, ↓wM_me, ↓wM_sl, ↓wM_noP, ↓wM_part, ↓wM_key, ↓wM_call, ↓wM_argSA0, ↓wM_argSA, ↓wM_argS_fz, ↓wM_argS_ow, ↓wM_argS_nm, ↓wM_mut, ↓wM_yes, ↓wM_rng1, ↓wM_rng2, ↓wM_wkV, ↓wM_wkT, ↓wM_wkL, ↓wM_wk2, ↓wM_wkB, ↓wM_wkC, ↓wM_wkS, ↓wM_wk1, ↓wM_wkLc, ↓wM_wkIf, ↓wM_wkLR, ↓wM_rng3, ↓wM_zip, ↓wM_rga1, ↓wM_rga2, ↓wM_lrg, ↓wM_trg, ↓wM_not, ↓wM_tru, ↓wM_and, ↓wM_or, ↓wM_andV, ↓wM_orV, ↓wM_notV, ↓wM_ifE, ↓wM_chain, ↓wM_chainT, ↓wM_dispN, ↓wM_pairs0, ↓wM_pairs, ↓wM_new, ↓wO_gsC, ↓wS_seq, ↓wS_pass, ↓wS_brk, ↓wS_cnt, ↓wS_ret, ↓wS_drop, ↓wS_if, ↓wS_set, ↓wS_asg, ↓wS_par, ↓wS_put, ↓wS_augS, ↓wS_aug, ↓wM_run', wO_some, varK_fz, varK_ow, varK_lk, lookK_fz, lookK_ow, lookK_lk, frzK_fz, frzK_ow, frzK_lk, argK_fz, argK_owt, argK_owf, argK_lkt, argK_lkf, mutK_ow', mutO_ow, putK'_ow, getK_ow, fzO_fz, augK_fz, intD_int, retK_fz, retK_ow, retK_nm, retO_fz, retO_ow, retO_lk, setR_fz, setR_ow, setR_nm, setK_fz, setK_ow, setK_lk, tru_b, tru_n, tru_l, tru_t, key_i, key_s, gIAdd_ii, gISub_ii, gPow_18, gN_ok, gsN_ok, gT_ok, setQs_nil, setQs_fz, setQs_ow, outP_t, outP_f, outP_n, wkO_fz, wkO_ow, wkO_lk, wk_fz, wk_ow, wk_nm, items_l, items_t, unl_none, unl_some, unlK_lk, callK_R, callR_fz, callR_ow, rest_nil, rest_cons, restK_some, wipe_nil, wipe_cons, gAdd_ii, gSub_ii, gMul_l, gMul_r, gDiv_ii, gMod_ii, gNeg_i, gEq_ii, gEq_ss, gEq_bb, gNe_ii, gNe_ss, gLt_ii, gLe_ii, gGt_ii, gGe_ii, gIx_l0, gIx_t0, gIx_l1, gIx_t1, gIx_l2, gIx_t2, gIx_t3, gIx_tz, gRev_l, gRev_t, zipD_ll, zipD_tl, zipD_lt, zipD_tt, int1_ok, int2_ok, gLen_l, gLen_t, gLen_d, gAbs_i, gAppend_l, gExtend_l, gInt_i, gTuple_l, gTuple_t, gList_l, gList_t, gMax_ii, gMin_ii, gSum_l, gIs_none, isLst, isT, isOw, List.getElem?_cons_zero, List.getElem?_cons_succ, List.length_cons, List.length_nil, List.cons_append, List.nil_append, List.replicate, List.set_cons_zero, List.set_cons_succ, true_and, and_true, if_true, List.map_cons, List.map_nil, Nat.reduceAdd, Nat.reduceSub, Nat.reduceLT, Nat.reduceLeDiff, List.length_set, List.length_map, List.length_append, List.length_range, reduceIte, reduceDIte, Bool.false_eq_true, slotOf, wb, Option.getD_some, nmOk, heldR, List.all_cons, List.all_nil, List.any_cons, List.any_nil, isNm, Bool.and_true, Bool.true_and, Bool.false_and, Bool.and_false, Bool.not_false, Bool.not_true, Bool.or_false, gSum_l]
def oD : Option Int → D
  | none => .none
  | some m => .int m
def endsD (tb : List P2) : List D := (tb.drop 1).map (fun t => PyData.int t.1) ++ [.none]
theorem ends_at {tb : List P2} {k : Nat} (hk : k < tb.length) : (endsD tb)[k]? = some (oD ((tb.drop (k + 1)).head?.map (·.1))) := by
  unfold endsD
  rw [List.head?_drop]
  rcases Nat.lt_or_ge (k + 1) tb.length with z | z
  · rw [List.getElem?_append_left (by rw [List.length_map, List.length_drop]; omega), List.getElem?_map, List.getElem?_drop, Nat.add_comm 1 k, List.getElem?_eq_getElem z]; rfl
  · rw [List.getElem?_append_right (by rw [List.length_map, List.length_drop]; omega), List.getElem?_eq_none z, List.length_map, List.length_drop, show k - (tb.length - 1) = 0 by omega]; rfl
/-- how far the sum has come before part k -/
def far (tb : List P2) (a : Int) (k : Nat) : Int := capO a ((tb.drop k).head?.map (·.1))
theorem owed_ok (tb : List P2) (a : Int) (h : Tb tb) (ha : 0 ≤ a ∧ a ≤ 1000) : f_owed [.fz (.tuple (tb.map encP)), .fz (.int a)] = .ok (.fz (.int (sumR tb a.toNat))) [.fz (.tuple (tb.map encP)), .fz (.int a)] := by
  have hl := h.len
  unfold f_owed
  apply run_eq
  unfold b_owed
  simp (disch := first | omega | (simp only [List.length_map, List.length_append, List.length_cons, List.length_nil, List.length_set, List.length_range, sizeLine_eq]; done) | (simp only [List.length_map, List.length_append, List.length_cons, List.length_nil, List.length_set, List.length_range, sizeLine_eq]; omega)) only [↓wM_bd, ↓wM_pr, ↓wM_opt, ↓wM_C, ↓wM_var, ↓wM_look_fz, ↓wM_look_ow, ↓wM_look_nm, ↓wM_frz_fz, ↓wM_frz_ow, ↓wM_frz_nm, ↓wM_op2, ↓wM_op2T, ↓wO_gB, ↓wM_op1, ↓wM_nil, ↓wM_cons, ↓wM_frzA0, ↓wM_frzA, ↓wM_lookA0, ↓wM_lookA, ↓wM_tup, ↓wM_lst, ↓wM_B, ↓wM_isi, ↓wM_me, ↓wM_sl, ↓wM_noP, ↓wM_part, ↓wM_key, ↓wM_call, ↓wM_argSA0, ↓wM_argSA, ↓wM_argS_fz, ↓wM_argS_ow, ↓wM_argS_nm, ↓wM_mut, ↓wM_yes, ↓wM_rng1, ↓wM_rng2, ↓wM_wkV, ↓wM_wkT, ↓wM_wkL, ↓wM_wk2, ↓wM_wkB, ↓wM_wkC, ↓wM_wkS, ↓wM_wk1, ↓wM_wkLc, ↓wM_wkIf, ↓wM_wkLR, ↓wM_rng3, ↓wM_zip, ↓wM_rga1, ↓wM_rga2, ↓wM_lrg, ↓wM_trg, ↓wM_not, ↓wM_tru, ↓wM_and, ↓wM_or, ↓wM_andV, ↓wM_orV, ↓wM_notV, ↓wM_ifE, ↓wM_chain, ↓wM_chainT, ↓wM_dispN, ↓wM_pairs0, ↓wM_pairs, ↓wM_new, ↓wO_gsC, ↓wS_seq, ↓wS_pass, ↓wS_brk, ↓wS_cnt, ↓wS_ret, ↓wS_drop, ↓wS_if, ↓wS_set, ↓wS_asg, ↓wS_par, ↓wS_put, ↓wS_augS, ↓wS_aug, ↓wM_run', wO_some, varK_fz, varK_ow, varK_lk, lookK_fz, lookK_ow, lookK_lk, frzK_fz, frzK_ow, frzK_lk, argK_fz, argK_owt, argK_owf, argK_lkt, argK_lkf, mutK_ow', mutO_ow, putK'_ow, getK_ow, fzO_fz, augK_fz, intD_int, retK_fz, retK_ow, retK_nm, retO_fz, retO_ow, retO_lk, setR_fz, setR_ow, setR_nm, setK_fz, setK_ow, setK_lk, tru_b, tru_n, tru_l, tru_t, key_i, key_s, gIAdd_ii, gISub_ii, gPow_18, gN_ok, gsN_ok, gT_ok, setQs_nil, setQs_fz, setQs_ow, outP_t, outP_f, outP_n, wkO_fz, wkO_ow, wkO_lk, wk_fz, wk_ow, wk_nm, items_l, items_t, unl_none, unl_some, unlK_lk, callK_R, callR_fz, callR_ow, rest_nil, rest_cons, restK_some, wipe_nil, wipe_cons, gAdd_ii, gSub_ii, gMul_l, gMul_r, gDiv_ii, gMod_ii, gNeg_i, gEq_ii, gEq_ss, gEq_bb, gNe_ii, gNe_ss, gLt_ii, gLe_ii, gGt_ii, gGe_ii, gIx_l0, gIx_t0, gIx_l1, gIx_t1, gIx_l2, gIx_t2, gIx_t3, gIx_tz, gRev_l, gRev_t, zipD_ll, zipD_tl, zipD_lt, zipD_tt, int1_ok, int2_ok, gLen_l, gLen_t, gLen_d, gAbs_i, gAppend_l, gExtend_l, gInt_i, gTuple_l, gTuple_t, gList_l, gList_t, gMax_ii, gMin_ii, gSum_l, gIs_none, isLst, isT, isOw, List.getElem?_cons_zero, List.getElem?_cons_succ, List.length_cons, List.length_nil, List.cons_append, List.nil_append, List.replicate, List.set_cons_zero, List.set_cons_succ, true_and, and_true, if_true, List.map_cons, List.map_nil, Nat.reduceAdd, Nat.reduceSub, Nat.reduceLT, Nat.reduceLeDiff, List.length_set, List.length_map, List.length_append, List.length_range, reduceIte, reduceDIte, Bool.false_eq_true, slotOf, wb, Option.getD_some, nmOk, heldR, List.all_cons, List.all_nil, List.any_cons, List.any_nil, isNm, Bool.and_true, Bool.true_and, Bool.false_and, Bool.and_false, Bool.not_false, Bool.not_true, Bool.or_false]
  refine wM_lcY (enc := encP) (xs := tb.drop 1) (l := none) (by
      simp (disch := first | omega | (simp only [List.length_map, List.length_append, List.length_cons, List.length_nil, List.length_set, List.length_range, sizeLine_eq]; done) | (simp only [List.length_map, List.length_append, List.length_cons, List.length_nil, List.length_set, List.length_range, sizeLine_eq]; omega)) only [↓wM_bd, ↓wM_pr, ↓wM_opt, ↓wM_C, ↓wM_var, ↓wM_look_fz, ↓wM_look_ow, ↓wM_look_nm, ↓wM_frz_fz, ↓wM_frz_ow, ↓wM_frz_nm, ↓wM_op2, ↓wM_op2T, ↓wO_gB, ↓wM_op1, ↓wM_nil, ↓wM_cons, ↓wM_frzA0, ↓wM_frzA, ↓wM_lookA0, ↓wM_lookA, ↓wM_tup, ↓wM_lst, ↓wM_B, ↓wM_isi, ↓wM_me, ↓wM_sl, ↓wM_noP, ↓wM_part, ↓wM_key, ↓wM_call, ↓wM_argSA0, ↓wM_argSA, ↓wM_argS_fz, ↓wM_argS_ow, ↓wM_argS_nm, ↓wM_mut, ↓wM_yes, ↓wM_rng1, ↓wM_rng2, ↓wM_wkV, ↓wM_wkT, ↓wM_wkL, ↓wM_wk2, ↓wM_wkB, ↓wM_wkC, ↓wM_wkS, ↓wM_wk1, ↓wM_wkLc, ↓wM_wkIf, ↓wM_wkLR, ↓wM_rng3, ↓wM_zip, ↓wM_rga1, ↓wM_rga2, ↓wM_lrg, ↓wM_trg, ↓wM_not, ↓wM_tru, ↓wM_and, ↓wM_or, ↓wM_andV, ↓wM_orV, ↓wM_notV, ↓wM_ifE, ↓wM_chain, ↓wM_chainT, ↓wM_dispN, ↓wM_pairs0, ↓wM_pairs, ↓wM_new, ↓wO_gsC, ↓wS_seq, ↓wS_pass, ↓wS_brk, ↓wS_cnt, ↓wS_ret, ↓wS_drop, ↓wS_if, ↓wS_set, ↓wS_asg, ↓wS_par, ↓wS_put, ↓wS_augS, ↓wS_aug, ↓wM_run', wO_some, varK_fz, varK_ow, varK_lk, lookK_fz, lookK_ow, lookK_lk, frzK_fz, frzK_ow, frzK_lk, argK_fz, argK_owt, argK_owf, argK_lkt, argK_lkf, mutK_ow', mutO_ow, putK'_ow, getK_ow, fzO_fz, augK_fz, intD_int, retK_fz, retK_ow, retK_nm, retO_fz, retO_ow, retO_lk, setR_fz, setR_ow, setR_nm, setK_fz, setK_ow, setK_lk, tru_b, tru_n, tru_l, tru_t, key_i, key_s, gIAdd_ii, gISub_ii, gPow_18, gN_ok, gsN_ok, gT_ok, setQs_nil, setQs_fz, setQs_ow, outP_t, outP_f, outP_n, wkO_fz, wkO_ow, wkO_lk, wk_fz, wk_ow, wk_nm, items_l, items_t, unl_none, unl_some, unlK_lk, callK_R, callR_fz, callR_ow, rest_nil, rest_cons, restK_some, wipe_nil, wipe_cons, gAdd_ii, gSub_ii, gMul_l, gMul_r, gDiv_ii, gMod_ii, gNeg_i, gEq_ii, gEq_ss, gEq_bb, gNe_ii, gNe_ss, gLt_ii, gLe_ii, gGt_ii, gGe_ii, gIx_l0, gIx_t0, gIx_l1, gIx_t1, gIx_l2, gIx_t2, gIx_t3, gIx_tz, gRev_l, gRev_t, zipD_ll, zipD_tl, zipD_lt, zipD_tt, int1_ok, int2_ok, gLen_l, gLen_t, gLen_d, gAbs_i, gAppend_l, gExtend_l, gInt_i, gTuple_l, gTuple_t, gList_l, gList_t, gMax_ii, gMin_ii, gSum_l, gIs_none, isLst, isT, isOw, List.getElem?_cons_zero, List.getElem?_cons_succ, List.length_cons, List.length_nil, List.cons_append, List.nil_append, List.replicate, List.set_cons_zero, List.set_cons_succ, true_and, and_true, if_true, List.map_cons, List.map_nil, Nat.reduceAdd, Nat.reduceSub, Nat.reduceLT, Nat.reduceLeDiff, List.length_set, List.length_map, List.length_append, List.length_range, reduceIte, reduceDIte, Bool.false_eq_true, slotOf, wb, Option.getD_some, nmOk, heldR, List.all_cons, List.all_nil, List.any_cons, List.any_nil, isNm, Bool.and_true, Bool.true_and, Bool.false_and, Bool.and_false, Bool.not_false, Bool.not_true, Bool.or_false, gSl_t, cutD_d1, ← List.map_drop]
      all_goals first | exact ⟨rfl, rfl⟩ | rfl) (fun t => .int t.1) (by rw [List.length_drop, sizeLine_eq]; omega) (fun t ht => ?_) ?_
  · rw [show encP t = .tuple [.int t.1, .int t.2] from rfl]
    simp (disch := first | omega | (simp only [List.length_map, List.length_append, List.length_cons, List.length_nil, List.length_set, List.length_range, sizeLine_eq]; done) | (simp only [List.length_map, List.length_append, List.length_cons, List.length_nil, List.length_set, List.length_range, sizeLine_eq]; omega)) only [↓wM_bd, ↓wM_pr, ↓wM_opt, ↓wM_C, ↓wM_var, ↓wM_look_fz, ↓wM_look_ow, ↓wM_look_nm, ↓wM_frz_fz, ↓wM_frz_ow, ↓wM_frz_nm, ↓wM_op2, ↓wM_op2T, ↓wO_gB, ↓wM_op1, ↓wM_nil, ↓wM_cons, ↓wM_frzA0, ↓wM_frzA, ↓wM_lookA0, ↓wM_lookA, ↓wM_tup, ↓wM_lst, ↓wM_B, ↓wM_isi, ↓wM_me, ↓wM_sl, ↓wM_noP, ↓wM_part, ↓wM_key, ↓wM_call, ↓wM_argSA0, ↓wM_argSA, ↓wM_argS_fz, ↓wM_argS_ow, ↓wM_argS_nm, ↓wM_mut, ↓wM_yes, ↓wM_rng1, ↓wM_rng2, ↓wM_wkV, ↓wM_wkT, ↓wM_wkL, ↓wM_wk2, ↓wM_wkB, ↓wM_wkC, ↓wM_wkS, ↓wM_wk1, ↓wM_wkLc, ↓wM_wkIf, ↓wM_wkLR, ↓wM_rng3, ↓wM_zip, ↓wM_rga1, ↓wM_rga2, ↓wM_lrg, ↓wM_trg, ↓wM_not, ↓wM_tru, ↓wM_and, ↓wM_or, ↓wM_andV, ↓wM_orV, ↓wM_notV, ↓wM_ifE, ↓wM_chain, ↓wM_chainT, ↓wM_dispN, ↓wM_pairs0, ↓wM_pairs, ↓wM_new, ↓wO_gsC, ↓wS_seq, ↓wS_pass, ↓wS_brk, ↓wS_cnt, ↓wS_ret, ↓wS_drop, ↓wS_if, ↓wS_set, ↓wS_asg, ↓wS_par, ↓wS_put, ↓wS_augS, ↓wS_aug, ↓wM_run', wO_some, varK_fz, varK_ow, varK_lk, lookK_fz, lookK_ow, lookK_lk, frzK_fz, frzK_ow, frzK_lk, argK_fz, argK_owt, argK_owf, argK_lkt, argK_lkf, mutK_ow', mutO_ow, putK'_ow, getK_ow, fzO_fz, augK_fz, intD_int, retK_fz, retK_ow, retK_nm, retO_fz, retO_ow, retO_lk, setR_fz, setR_ow, setR_nm, setK_fz, setK_ow, setK_lk, tru_b, tru_n, tru_l, tru_t, key_i, key_s, gIAdd_ii, gISub_ii, gPow_18, gN_ok, gsN_ok, gT_ok, setQs_nil, setQs_fz, setQs_ow, outP_t, outP_f, outP_n, wkO_fz, wkO_ow, wkO_lk, wk_fz, wk_ow, wk_nm, items_l, items_t, unl_none, unl_some, unlK_lk, callK_R, callR_fz, callR_ow, rest_nil, rest_cons, restK_some, wipe_nil, wipe_cons, gAdd_ii, gSub_ii, gMul_l, gMul_r, gDiv_ii, gMod_ii, gNeg_i, gEq_ii, gEq_ss, gEq_bb, gNe_ii, gNe_ss, gLt_ii, gLe_ii, gGt_ii, gGe_ii, gIx_l0, gIx_t0, gIx_l1, gIx_t1, gIx_l2, gIx_t2, gIx_t3, gIx_tz, gRev_l, gRev_t, zipD_ll, zipD_tl, zipD_lt, zipD_tt, int1_ok, int2_ok, gLen_l, gLen_t, gLen_d, gAbs_i, gAppend_l, gExtend_l, gInt_i, gTuple_l, gTuple_t, gList_l, gList_t, gMax_ii, gMin_ii, gSum_l, gIs_none, isLst, isT, isOw, List.getElem?_cons_zero, List.getElem?_cons_succ, List.length_cons, List.length_nil, List.cons_append, List.nil_append, List.replicate, List.set_cons_zero, List.set_cons_succ, true_and, and_true, if_true, List.map_cons, List.map_nil, Nat.reduceAdd, Nat.reduceSub, Nat.reduceLT, Nat.reduceLeDiff, List.length_set, List.length_map, List.length_append, List.length_range, reduceIte, reduceDIte, Bool.false_eq_true, slotOf, wb, Option.getD_some, nmOk, heldR, List.all_cons, List.all_nil, List.any_cons, List.any_nil, isNm, Bool.and_true, Bool.true_and, Bool.false_and, Bool.and_false, Bool.not_false, Bool.not_true, Bool.or_false]
  have hle : (tb.drop 1).length ≤ 20 := by rw [List.length_drop]; omega
  simp (disch := first | omega | (simp only [List.length_map, List.length_append, List.length_cons, List.length_nil, List.length_set, List.length_range, sizeLine_eq]; done) | (simp only [List.length_map, List.length_append, List.length_cons, List.length_nil, List.length_set, List.length_range, sizeLine_eq]; omega)) only [↓wM_bd, ↓wM_pr, ↓wM_opt, ↓wM_C, ↓wM_var, ↓wM_look_fz, ↓wM_look_ow, ↓wM_look_nm, ↓wM_frz_fz, ↓wM_frz_ow, ↓wM_frz_nm, ↓wM_op2, ↓wM_op2T, ↓wO_gB, ↓wM_op1, ↓wM_nil, ↓wM_cons, ↓wM_frzA0, ↓wM_frzA, ↓wM_lookA0, ↓wM_lookA, ↓wM_tup, ↓wM_lst, ↓wM_B, ↓wM_isi, ↓wM_me, ↓wM_sl, ↓wM_noP, ↓wM_part, ↓wM_key, ↓wM_call, ↓wM_argSA0, ↓wM_argSA, ↓wM_argS_fz, ↓wM_argS_ow, ↓wM_argS_nm, ↓wM_mut, ↓wM_yes, ↓wM_rng1, ↓wM_rng2, ↓wM_wkV, ↓wM_wkT, ↓wM_wkL, ↓wM_wk2, ↓wM_wkB, ↓wM_wkC, ↓wM_wkS, ↓wM_wk1, ↓wM_wkLc, ↓wM_wkIf, ↓wM_wkLR, ↓wM_rng3, ↓wM_zip, ↓wM_rga1, ↓wM_rga2, ↓wM_lrg, ↓wM_trg, ↓wM_not, ↓wM_tru, ↓wM_and, ↓wM_or, ↓wM_andV, ↓wM_orV, ↓wM_notV, ↓wM_ifE, ↓wM_chain, ↓wM_chainT, ↓wM_dispN, ↓wM_pairs0, ↓wM_pairs, ↓wM_new, ↓wO_gsC, ↓wS_seq, ↓wS_pass, ↓wS_brk, ↓wS_cnt, ↓wS_ret, ↓wS_drop, ↓wS_if, ↓wS_set, ↓wS_asg, ↓wS_par, ↓wS_put, ↓wS_augS, ↓wS_aug, ↓wM_run', wO_some, varK_fz, varK_ow, varK_lk, lookK_fz, lookK_ow, lookK_lk, frzK_fz, frzK_ow, frzK_lk, argK_fz, argK_owt, argK_owf, argK_lkt, argK_lkf, mutK_ow', mutO_ow, putK'_ow, getK_ow, fzO_fz, augK_fz, intD_int, retK_fz, retK_ow, retK_nm, retO_fz, retO_ow, retO_lk, setR_fz, setR_ow, setR_nm, setK_fz, setK_ow, setK_lk, tru_b, tru_n, tru_l, tru_t, key_i, key_s, gIAdd_ii, gISub_ii, gPow_18, gN_ok, gsN_ok, gT_ok, setQs_nil, setQs_fz, setQs_ow, outP_t, outP_f, outP_n, wkO_fz, wkO_ow, wkO_lk, wk_fz, wk_ow, wk_nm, items_l, items_t, unl_none, unl_some, unlK_lk, callK_R, callR_fz, callR_ow, rest_nil, rest_cons, restK_some, wipe_nil, wipe_cons, gAdd_ii, gSub_ii, gMul_l, gMul_r, gDiv_ii, gMod_ii, gNeg_i, gEq_ii, gEq_ss, gEq_bb, gNe_ii, gNe_ss, gLt_ii, gLe_ii, gGt_ii, gGe_ii, gIx_l0, gIx_t0, gIx_l1, gIx_t1, gIx_l2, gIx_t2, gIx_t3, gIx_tz, gRev_l, gRev_t, zipD_ll, zipD_tl, zipD_lt, zipD_tt, int1_ok, int2_ok, gLen_l, gLen_t, gLen_d, gAbs_i, gAppend_l, gExtend_l, gInt_i, gTuple_l, gTuple_t, gList_l, gList_t, gMax_ii, gMin_ii, gSum_l, gIs_none, isLst, isT, isOw, List.getElem?_cons_zero, List.getElem?_cons_succ, List.length_cons, List.length_nil, List.cons_append, List.nil_append, List.replicate, List.set_cons_zero, List.set_cons_succ, true_and, and_true, if_true, List.map_cons, List.map_nil, Nat.reduceAdd, Nat.reduceSub, Nat.reduceLT, Nat.reduceLeDiff, List.length_set, List.length_map, List.length_append, List.length_range, reduceIte, reduceDIte, Bool.false_eq_true, slotOf, wb, Option.getD_some, nmOk, heldR, List.all_cons, List.all_nil, List.any_cons, List.any_nil, isNm, Bool.and_true, Bool.true_and, Bool.false_and, Bool.and_false, Bool.not_false, Bool.not_true, Bool.or_false, gAdd_ll]
  rw [show (tb.drop 1).map (fun t => PyData.int t.1) ++ [.none] = endsD tb from rfl]
  have hlen : (zipP (tb.map encP) (endsD tb)).length = tb.length := by
    have := List.length_pos_iff.mpr h.ne
    unfold zipP endsD
    rw [List.length_map, List.length_zip, List.length_append, List.length_map, List.length_map, List.length_drop, List.length_singleton]; omega
  have h0 : far tb a 0 = 0 := by
    obtain ⟨x, r, e⟩ := List.exists_cons_of_ne_nil h.ne
    have := h.hd x (by rw [e]; rfl)
    unfold far
    rw [List.drop_zero, e]
    show min a x.1 = 0
    omega
  refine wS_forI (ds := zipP (tb.map encP) (endsD tb)) (l := none) (by simp (disch := first | omega | (simp only [List.length_map, List.length_append, List.length_cons, List.length_nil, List.length_set, List.length_range, sizeLine_eq]; done) | (simp only [List.length_map, List.length_append, List.length_cons, List.length_nil, List.length_set, List.length_range, sizeLine_eq]; omega)) only [↓wM_bd, ↓wM_pr, ↓wM_opt, ↓wM_C, ↓wM_var, ↓wM_look_fz, ↓wM_look_ow, ↓wM_look_nm, ↓wM_frz_fz, ↓wM_frz_ow, ↓wM_frz_nm, ↓wM_op2, ↓wM_op2T, ↓wO_gB, ↓wM_op1, ↓wM_nil, ↓wM_cons, ↓wM_frzA0, ↓wM_frzA, ↓wM_lookA0, ↓wM_lookA, ↓wM_tup, ↓wM_lst, ↓wM_B, ↓wM_isi, ↓wM_me, ↓wM_sl, ↓wM_noP, ↓wM_part, ↓wM_key, ↓wM_call, ↓wM_argSA0, ↓wM_argSA, ↓wM_argS_fz, ↓wM_argS_ow, ↓wM_argS_nm, ↓wM_mut, ↓wM_yes, ↓wM_rng1, ↓wM_rng2, ↓wM_wkV, ↓wM_wkT, ↓wM_wkL, ↓wM_wk2, ↓wM_wkB, ↓wM_wkC, ↓wM_wkS, ↓wM_wk1, ↓wM_wkLc, ↓wM_wkIf, ↓wM_wkLR, ↓wM_rng3, ↓wM_zip, ↓wM_rga1, ↓wM_rga2, ↓wM_lrg, ↓wM_trg, ↓wM_not, ↓wM_tru, ↓wM_and, ↓wM_or, ↓wM_andV, ↓wM_orV, ↓wM_notV, ↓wM_ifE, ↓wM_chain, ↓wM_chainT, ↓wM_dispN, ↓wM_pairs0, ↓wM_pairs, ↓wM_new, ↓wO_gsC, ↓wS_seq, ↓wS_pass, ↓wS_brk, ↓wS_cnt, ↓wS_ret, ↓wS_drop, ↓wS_if, ↓wS_set, ↓wS_asg, ↓wS_par, ↓wS_put, ↓wS_augS, ↓wS_aug, ↓wM_run', wO_some, varK_fz, varK_ow, varK_lk, lookK_fz, lookK_ow, lookK_lk, frzK_fz, frzK_ow, frzK_lk, argK_fz, argK_owt, argK_owf, argK_lkt, argK_lkf, mutK_ow', mutO_ow, putK'_ow, getK_ow, fzO_fz, augK_fz, intD_int, retK_fz, retK_ow, retK_nm, retO_fz, retO_ow, retO_lk, setR_fz, setR_ow, setR_nm, setK_fz, setK_ow, setK_lk, tru_b, tru_n, tru_l, tru_t, key_i, key_s, gIAdd_ii, gISub_ii, gPow_18, gN_ok, gsN_ok, gT_ok, setQs_nil, setQs_fz, setQs_ow, outP_t, outP_f, outP_n, wkO_fz, wkO_ow, wkO_lk, wk_fz, wk_ow, wk_nm, items_l, items_t, unl_none, unl_some, unlK_lk, callK_R, callR_fz, callR_ow, rest_nil, rest_cons, restK_some, wipe_nil, wipe_cons, gAdd_ii, gSub_ii, gMul_l, gMul_r, gDiv_ii, gMod_ii, gNeg_i, gEq_ii, gEq_ss, gEq_bb, gNe_ii, gNe_ss, gLt_ii, gLe_ii, gGt_ii, gGe_ii, gIx_l0, gIx_t0, gIx_l1, gIx_t1, gIx_l2, gIx_t2, gIx_t3, gIx_tz, gRev_l, gRev_t, zipD_ll, zipD_tl, zipD_lt, zipD_tt, int1_ok, int2_ok, gLen_l, gLen_t, gLen_d, gAbs_i, gAppend_l, gExtend_l, gInt_i, gTuple_l, gTuple_t, gList_l, gList_t, gMax_ii, gMin_ii, gSum_l, gIs_none, isLst, isT, isOw, List.getElem?_cons_zero, List.getElem?_cons_succ, List.length_cons, List.length_nil, List.cons_append, List.nil_append, List.replicate, List.set_cons_zero, List.set_cons_succ, true_and, and_true, if_true, List.map_cons, List.map_nil, Nat.reduceAdd, Nat.reduceSub, Nat.reduceLT, Nat.reduceLeDiff, List.length_set, List.length_map, List.length_append, List.length_range, reduceIte, reduceDIte, Bool.false_eq_true, slotOf, wb, Option.getD_some, nmOk, heldR, List.all_cons, List.all_nil, List.any_cons, List.any_nil, isNm, Bool.and_true, Bool.true_and, Bool.false_and, Bool.and_false, Bool.not_false, Bool.not_true, Bool.or_false, rng1_ok, rng2_ok] <;> (first | exact ⟨rfl, rfl⟩ | exact rfl)) (fun k ρ => ∃ (s4 s5 s6 s7 s8 : Sl), ρ = [.fz (.tuple (tb.map encP)), .fz (.int a), .fz (.int (sumR tb (far tb a k).toNat)), .fz (.list (endsD tb)), s4, s5, s6, s7, s8]) ⟨_, _, _, _, _, by rw [h0]; rfl⟩ ?_ ?_
  · rintro k d ρ hd ⟨s4, s5, s6, s7, s8, rfl⟩
    obtain ⟨x, y, hx, hy, rfl⟩ := zip_at hd
    obtain ⟨hk, rfl⟩ := at_map hx
    rw [ends_at hk] at hy
    cases hy
    have hsp : tb.drop k = tb[k] :: tb.drop (k + 1) := List.drop_eq_getElem_cons hk
    have htb : tb = tb.take k ++ tb[k] :: tb.drop (k + 1) := by rw [← hsp, List.take_append_drop]
    have hf : far tb a k = min a tb[k].1 := by unfold far; rw [hsp]; rfl
    rw [hf]
    generalize tb[k] = t at htb
    have hst := owed_step (pre := tb.take k) (post := tb.drop (k + 1)) (t := t) (a := a) (htb ▸ h) ha.1
    rw [← htb] at hst
    have hf2 : far tb a (k + 1) = capO a ((tb.drop (k + 1)).head?.map (·.1)) := rfl
    rw [hf2]
    generalize (tb.drop (k + 1)).head?.map (·.1) = E at hst
    have htr : 0 ≤ t.2 ∧ t.2 ≤ 1000 := h.ra t (by rw [htb]; simp)
    rw [show encP t = .tuple [.int t.1, .int t.2] from rfl]
    cases E with
    | none =>
      simp (disch := first | omega | (simp only [List.length_map, List.length_append, List.length_cons, List.length_nil, List.length_set, List.length_range, sizeLine_eq]; done) | (simp only [List.length_map, List.length_append, List.length_cons, List.length_nil, List.length_set, List.length_range, sizeLine_eq]; omega)) only [↓wM_bd, ↓wM_pr, ↓wM_opt, ↓wM_C, ↓wM_var, ↓wM_look_fz, ↓wM_look_ow, ↓wM_look_nm, ↓wM_frz_fz, ↓wM_frz_ow, ↓wM_frz_nm, ↓wM_op2, ↓wM_op2T, ↓wO_gB, ↓wM_op1, ↓wM_nil, ↓wM_cons, ↓wM_frzA0, ↓wM_frzA, ↓wM_lookA0, ↓wM_lookA, ↓wM_tup, ↓wM_lst, ↓wM_B, ↓wM_isi, ↓wM_me, ↓wM_sl, ↓wM_noP, ↓wM_part, ↓wM_key, ↓wM_call, ↓wM_argSA0, ↓wM_argSA, ↓wM_argS_fz, ↓wM_argS_ow, ↓wM_argS_nm, ↓wM_mut, ↓wM_yes, ↓wM_rng1, ↓wM_rng2, ↓wM_wkV, ↓wM_wkT, ↓wM_wkL, ↓wM_wk2, ↓wM_wkB, ↓wM_wkC, ↓wM_wkS, ↓wM_wk1, ↓wM_wkLc, ↓wM_wkIf, ↓wM_wkLR, ↓wM_rng3, ↓wM_zip, ↓wM_rga1, ↓wM_rga2, ↓wM_lrg, ↓wM_trg, ↓wM_not, ↓wM_tru, ↓wM_and, ↓wM_or, ↓wM_andV, ↓wM_orV, ↓wM_notV, ↓wM_ifE, ↓wM_chain, ↓wM_chainT, ↓wM_dispN, ↓wM_pairs0, ↓wM_pairs, ↓wM_new, ↓wO_gsC, ↓wS_seq, ↓wS_pass, ↓wS_brk, ↓wS_cnt, ↓wS_ret, ↓wS_drop, ↓wS_if, ↓wS_set, ↓wS_asg, ↓wS_par, ↓wS_put, ↓wS_augS, ↓wS_aug, ↓wM_run', wO_some, varK_fz, varK_ow, varK_lk, lookK_fz, lookK_ow, lookK_lk, frzK_fz, frzK_ow, frzK_lk, argK_fz, argK_owt, argK_owf, argK_lkt, argK_lkf, mutK_ow', mutO_ow, putK'_ow, getK_ow, fzO_fz, augK_fz, intD_int, retK_fz, retK_ow, retK_nm, retO_fz, retO_ow, retO_lk, setR_fz, setR_ow, setR_nm, setK_fz, setK_ow, setK_lk, tru_b, tru_n, tru_l, tru_t, key_i, key_s, gIAdd_ii, gISub_ii, gPow_18, gN_ok, gsN_ok, gT_ok, setQs_nil, setQs_fz, setQs_ow, outP_t, outP_f, outP_n, wkO_fz, wkO_ow, wkO_lk, wk_fz, wk_ow, wk_nm, items_l, items_t, unl_none, unl_some, unlK_lk, callK_R, callR_fz, callR_ow, rest_nil, rest_cons, restK_some, wipe_nil, wipe_cons, gAdd_ii, gSub_ii, gMul_l, gMul_r, gDiv_ii, gMod_ii, gNeg_i, gEq_ii, gEq_ss, gEq_bb, gNe_ii, gNe_ss, gLt_ii, gLe_ii, gGt_ii, gGe_ii, gIx_l0, gIx_t0, gIx_l1, gIx_t1, gIx_l2, gIx_t2, gIx_t3, gIx_tz, gRev_l, gRev_t, zipD_ll, zipD_tl, zipD_lt, zipD_tt, int1_ok, int2_ok, gLen_l, gLen_t, gLen_d, gAbs_i, gAppend_l, gExtend_l, gInt_i, gTuple_l, gTuple_t, gList_l, gList_t, gMax_ii, gMin_ii, gSum_l, gIs_none, isLst, isT, isOw, List.getElem?_cons_zero, List.getElem?_cons_succ, List.length_cons, List.length_nil, List.cons_append, List.nil_append, List.replicate, List.set_cons_zero, List.set_cons_succ, true_and, and_true, if_true, List.map_cons, List.map_nil, Nat.reduceAdd, Nat.reduceSub, Nat.reduceLT, Nat.reduceLeDiff, List.length_set, List.length_map, List.length_append, List.length_range, reduceIte, reduceDIte, Bool.false_eq_true, slotOf, wb, Option.getD_some, nmOk, heldR, List.all_cons, List.all_nil, List.any_cons, List.any_nil, isNm, Bool.and_true, Bool.true_and, Bool.false_and, Bool.and_false, Bool.not_false, Bool.not_true, Bool.or_false, oD, isNone_n]
      exact ⟨_, _, _, _, _, by rw [← hst]; rfl⟩
    | some e =>
      simp (disch := first | omega | (simp only [List.length_map, List.length_append, List.length_cons, List.length_nil, List.length_set, List.length_range, sizeLine_eq]; done) | (simp only [List.length_map, List.length_append, List.length_cons, List.length_nil, List.length_set, List.length_range, sizeLine_eq]; omega)) only [↓wM_bd, ↓wM_pr, ↓wM_opt, ↓wM_C, ↓wM_var, ↓wM_look_fz, ↓wM_look_ow, ↓wM_look_nm, ↓wM_frz_fz, ↓wM_frz_ow, ↓wM_frz_nm, ↓wM_op2, ↓wM_op2T, ↓wO_gB, ↓wM_op1, ↓wM_nil, ↓wM_cons, ↓wM_frzA0, ↓wM_frzA, ↓wM_lookA0, ↓wM_lookA, ↓wM_tup, ↓wM_lst, ↓wM_B, ↓wM_isi, ↓wM_me, ↓wM_sl, ↓wM_noP, ↓wM_part, ↓wM_key, ↓wM_call, ↓wM_argSA0, ↓wM_argSA, ↓wM_argS_fz, ↓wM_argS_ow, ↓wM_argS_nm, ↓wM_mut, ↓wM_yes, ↓wM_rng1, ↓wM_rng2, ↓wM_wkV, ↓wM_wkT, ↓wM_wkL, ↓wM_wk2, ↓wM_wkB, ↓wM_wkC, ↓wM_wkS, ↓wM_wk1, ↓wM_wkLc, ↓wM_wkIf, ↓wM_wkLR, ↓wM_rng3, ↓wM_zip, ↓wM_rga1, ↓wM_rga2, ↓wM_lrg, ↓wM_trg, ↓wM_not, ↓wM_tru, ↓wM_and, ↓wM_or, ↓wM_andV, ↓wM_orV, ↓wM_notV, ↓wM_ifE, ↓wM_chain, ↓wM_chainT, ↓wM_dispN, ↓wM_pairs0, ↓wM_pairs, ↓wM_new, ↓wO_gsC, ↓wS_seq, ↓wS_pass, ↓wS_brk, ↓wS_cnt, ↓wS_ret, ↓wS_drop, ↓wS_if, ↓wS_set, ↓wS_asg, ↓wS_par, ↓wS_put, ↓wS_augS, ↓wS_aug, ↓wM_run', wO_some, varK_fz, varK_ow, varK_lk, lookK_fz, lookK_ow, lookK_lk, frzK_fz, frzK_ow, frzK_lk, argK_fz, argK_owt, argK_owf, argK_lkt, argK_lkf, mutK_ow', mutO_ow, putK'_ow, getK_ow, fzO_fz, augK_fz, intD_int, retK_fz, retK_ow, retK_nm, retO_fz, retO_ow, retO_lk, setR_fz, setR_ow, setR_nm, setK_fz, setK_ow, setK_lk, tru_b, tru_n, tru_l, tru_t, key_i, key_s, gIAdd_ii, gISub_ii, gPow_18, gN_ok, gsN_ok, gT_ok, setQs_nil, setQs_fz, setQs_ow, outP_t, outP_f, outP_n, wkO_fz, wkO_ow, wkO_lk, wk_fz, wk_ow, wk_nm, items_l, items_t, unl_none, unl_some, unlK_lk, callK_R, callR_fz, callR_ow, rest_nil, rest_cons, restK_some, wipe_nil, wipe_cons, gAdd_ii, gSub_ii, gMul_l, gMul_r, gDiv_ii, gMod_ii, gNeg_i, gEq_ii, gEq_ss, gEq_bb, gNe_ii, gNe_ss, gLt_ii, gLe_ii, gGt_ii, gGe_ii, gIx_l0, gIx_t0, gIx_l1, gIx_t1, gIx_l2, gIx_t2, gIx_t3, gIx_tz, gRev_l, gRev_t, zipD_ll, zipD_tl, zipD_lt, zipD_tt, int1_ok, int2_ok, gLen_l, gLen_t, gLen_d, gAbs_i, gAppend_l, gExtend_l, gInt_i, gTuple_l, gTuple_t, gList_l, gList_t, gMax_ii, gMin_ii, gSum_l, gIs_none, isLst, isT, isOw, List.getElem?_cons_zero, List.getElem?_cons_succ, List.length_cons, List.length_nil, List.cons_append, List.nil_append, List.replicate, List.set_cons_zero, List.set_cons_succ, true_and, and_true, if_true, List.map_cons, List.map_nil, Nat.reduceAdd, Nat.reduceSub, Nat.reduceLT, Nat.reduceLeDiff, List.length_set, List.length_map, List.length_append, List.length_range, reduceIte, reduceDIte, Bool.false_eq_true, slotOf, wb, Option.getD_some, nmOk, heldR, List.all_cons, List.all_nil, List.any_cons, List.any_nil, isNm, Bool.and_true, Bool.true_and, Bool.false_and, Bool.and_false, Bool.not_false, Bool.not_true, Bool.or_false, oD, isNone_i]
      exact ⟨_, _, _, _, _, by rw [← hst]; rfl⟩
  · rintro ρ ⟨s4, s5, s6, s7, s8, rfl⟩
    rw [hlen]
    simp (disch := first | omega | (simp only [List.length_map, List.length_append, List.length_cons, List.length_nil, List.length_set, List.length_range, sizeLine_eq]; done) | (simp only [List.length_map, List.length_append, List.length_cons, List.length_nil, List.length_set, List.length_range, sizeLine_eq]; omega)) only [↓wM_bd, ↓wM_pr, ↓wM_opt, ↓wM_C, ↓wM_var, ↓wM_look_fz, ↓wM_look_ow, ↓wM_look_nm, ↓wM_frz_fz, ↓wM_frz_ow, ↓wM_frz_nm, ↓wM_op2, ↓wM_op2T, ↓wO_gB, ↓wM_op1, ↓wM_nil, ↓wM_cons, ↓wM_frzA0, ↓wM_frzA, ↓wM_lookA0, ↓wM_lookA, ↓wM_tup, ↓wM_lst, ↓wM_B, ↓wM_isi, ↓wM_me, ↓wM_sl, ↓wM_noP, ↓wM_part, ↓wM_key, ↓wM_call, ↓wM_argSA0, ↓wM_argSA, ↓wM_argS_fz, ↓wM_argS_ow, ↓wM_argS_nm, ↓wM_mut, ↓wM_yes, ↓wM_rng1, ↓wM_rng2, ↓wM_wkV, ↓wM_wkT, ↓wM_wkL, ↓wM_wk2, ↓wM_wkB, ↓wM_wkC, ↓wM_wkS, ↓wM_wk1, ↓wM_wkLc, ↓wM_wkIf, ↓wM_wkLR, ↓wM_rng3, ↓wM_zip, ↓wM_rga1, ↓wM_rga2, ↓wM_lrg, ↓wM_trg, ↓wM_not, ↓wM_tru, ↓wM_and, ↓wM_or, ↓wM_andV, ↓wM_orV, ↓wM_notV, ↓wM_ifE, ↓wM_chain, ↓wM_chainT, ↓wM_dispN, ↓wM_pairs0, ↓wM_pairs, ↓wM_new, ↓wO_gsC, ↓wS_seq, ↓wS_pass, ↓wS_brk, ↓wS_cnt, ↓wS_ret, ↓wS_drop, ↓wS_if, ↓wS_set, ↓wS_asg, ↓wS_par, ↓wS_put, ↓wS_augS, ↓wS_aug, ↓wM_run', wO_some, varK_fz, varK_ow, varK_lk, lookK_fz, lookK_ow, lookK_lk, frzK_fz, frzK_ow, frzK_lk, argK_fz, argK_owt, argK_owf, argK_lkt, argK_lkf, mutK_ow', mutO_ow, putK'_ow, getK_ow, fzO_fz, augK_fz, intD_int, retK_fz, retK_ow, retK_nm, retO_fz, retO_ow, retO_lk, setR_fz, setR_ow, setR_nm, setK_fz, setK_ow, setK_lk, tru_b, tru_n, tru_l, tru_t, key_i, key_s, gIAdd_ii, gISub_ii, gPow_18, gN_ok, gsN_ok, gT_ok, setQs_nil, setQs_fz, setQs_ow, outP_t, outP_f, outP_n, wkO_fz, wkO_ow, wkO_lk, wk_fz, wk_ow, wk_nm, items_l, items_t, unl_none, unl_some, unlK_lk, callK_R, callR_fz, callR_ow, rest_nil, rest_cons, restK_some, wipe_nil, wipe_cons, gAdd_ii, gSub_ii, gMul_l, gMul_r, gDiv_ii, gMod_ii, gNeg_i, gEq_ii, gEq_ss, gEq_bb, gNe_ii, gNe_ss, gLt_ii, gLe_ii, gGt_ii, gGe_ii, gIx_l0, gIx_t0, gIx_l1, gIx_t1, gIx_l2, gIx_t2, gIx_t3, gIx_tz, gRev_l, gRev_t, zipD_ll, zipD_tl, zipD_lt, zipD_tt, int1_ok, int2_ok, gLen_l, gLen_t, gLen_d, gAbs_i, gAppend_l, gExtend_l, gInt_i, gTuple_l, gTuple_t, gList_l, gList_t, gMax_ii, gMin_ii, gSum_l, gIs_none, isLst, isT, isOw, List.getElem?_cons_zero, List.getElem?_cons_succ, List.length_cons, List.length_nil, List.cons_append, List.nil_append, List.replicate, List.set_cons_zero, List.set_cons_succ, true_and, and_true, if_true, List.map_cons, List.map_nil, Nat.reduceAdd, Nat.reduceSub, Nat.reduceLT, Nat.reduceLeDiff, List.length_set, List.length_map, List.length_append, List.length_range, reduceIte, reduceDIte, Bool.false_eq_true, slotOf, wb, Option.getD_some, nmOk, heldR, List.all_cons, List.all_nil, List.any_cons, List.any_nil, isNm, Bool.and_true, Bool.true_and, Bool.false_and, Bool.and_false, Bool.not_false, Bool.not_true, Bool.or_false]
    unfold far
    rw [List.drop_length]; rfl
theorem encP_fine (v : P2) : fine 1 (encP v) := fine_t fun d hd => by
  simp only [List.mem_cons, List.not_mem_nil, or_false] at hd
  rcases hd with z | z <;> subst z <;> exact fine_i
theorem encPs_sh (L : List P2) : SeqAt.shaped (.list (L.map encP)) = true := fine_sh (n := 2) (fine_l fun d hd => by
  obtain ⟨v, _, rfl⟩ := List.mem_map.mp hd; exact encP_fine v) (by omega)
theorem ltS_len (l : List P2) (t : P2) : (ltS l t).length ≤ l.length + 1 := by
  unfold ltS; split
  · simp
  · split <;> simp
theorem foldl_len : ∀ (q l : List P2), (q.foldl ltS l).length ≤ l.length + q.length
  | [], l => by simp
  | t :: q, l => by rw [List.foldl_cons]; have := foldl_len q (ltS l t); have := ltS_len l t; simp; omega
theorem leasttable_ok (tb : List P2) (hl : tb.length ≤ 20) : f_least_table [.fz (.tuple (tb.map encP))] = .ok (.fz (.tuple ((lt tb).map encP))) [.fz (.tuple (tb.map encP))] := by
  unfold f_least_table
  apply run_eq
  unfold b_least_table
  simp (disch := first | omega | (simp only [List.length_map, List.length_append, List.length_cons, List.length_nil, List.length_set, List.length_range, sizeLine_eq]; done) | (simp only [List.length_map, List.length_append, List.length_cons, List.length_nil, List.length_set, List.length_range, sizeLine_eq]; omega)) only [↓wM_bd, ↓wM_pr, ↓wM_opt, ↓wM_C, ↓wM_var, ↓wM_look_fz, ↓wM_look_ow, ↓wM_look_nm, ↓wM_frz_fz, ↓wM_frz_ow, ↓wM_frz_nm, ↓wM_op2, ↓wM_op2T, ↓wO_gB, ↓wM_op1, ↓wM_nil, ↓wM_cons, ↓wM_frzA0, ↓wM_frzA, ↓wM_lookA0, ↓wM_lookA, ↓wM_tup, ↓wM_lst, ↓wM_B, ↓wM_isi, ↓wM_me, ↓wM_sl, ↓wM_noP, ↓wM_part, ↓wM_key, ↓wM_call, ↓wM_argSA0, ↓wM_argSA, ↓wM_argS_fz, ↓wM_argS_ow, ↓wM_argS_nm, ↓wM_mut, ↓wM_yes, ↓wM_rng1, ↓wM_rng2, ↓wM_wkV, ↓wM_wkT, ↓wM_wkL, ↓wM_wk2, ↓wM_wkB, ↓wM_wkC, ↓wM_wkS, ↓wM_wk1, ↓wM_wkLc, ↓wM_wkIf, ↓wM_wkLR, ↓wM_rng3, ↓wM_zip, ↓wM_rga1, ↓wM_rga2, ↓wM_lrg, ↓wM_trg, ↓wM_not, ↓wM_tru, ↓wM_and, ↓wM_or, ↓wM_andV, ↓wM_orV, ↓wM_notV, ↓wM_ifE, ↓wM_chain, ↓wM_chainT, ↓wM_dispN, ↓wM_pairs0, ↓wM_pairs, ↓wM_new, ↓wO_gsC, ↓wS_seq, ↓wS_pass, ↓wS_brk, ↓wS_cnt, ↓wS_ret, ↓wS_drop, ↓wS_if, ↓wS_set, ↓wS_asg, ↓wS_par, ↓wS_put, ↓wS_augS, ↓wS_aug, ↓wM_run', wO_some, varK_fz, varK_ow, varK_lk, lookK_fz, lookK_ow, lookK_lk, frzK_fz, frzK_ow, frzK_lk, argK_fz, argK_owt, argK_owf, argK_lkt, argK_lkf, mutK_ow', mutO_ow, putK'_ow, getK_ow, fzO_fz, augK_fz, intD_int, retK_fz, retK_ow, retK_nm, retO_fz, retO_ow, retO_lk, setR_fz, setR_ow, setR_nm, setK_fz, setK_ow, setK_lk, tru_b, tru_n, tru_l, tru_t, key_i, key_s, gIAdd_ii, gISub_ii, gPow_18, gN_ok, gsN_ok, gT_ok, setQs_nil, setQs_fz, setQs_ow, outP_t, outP_f, outP_n, wkO_fz, wkO_ow, wkO_lk, wk_fz, wk_ow, wk_nm, items_l, items_t, unl_none, unl_some, unlK_lk, callK_R, callR_fz, callR_ow, rest_nil, rest_cons, restK_some, wipe_nil, wipe_cons, gAdd_ii, gSub_ii, gMul_l, gMul_r, gDiv_ii, gMod_ii, gNeg_i, gEq_ii, gEq_ss, gEq_bb, gNe_ii, gNe_ss, gLt_ii, gLe_ii, gGt_ii, gGe_ii, gIx_l0, gIx_t0, gIx_l1, gIx_t1, gIx_l2, gIx_t2, gIx_t3, gIx_tz, gRev_l, gRev_t, zipD_ll, zipD_tl, zipD_lt, zipD_tt, int1_ok, int2_ok, gLen_l, gLen_t, gLen_d, gAbs_i, gAppend_l, gExtend_l, gInt_i, gTuple_l, gTuple_t, gList_l, gList_t, gMax_ii, gMin_ii, gSum_l, gIs_none, isLst, isT, isOw, List.getElem?_cons_zero, List.getElem?_cons_succ, List.length_cons, List.length_nil, List.cons_append, List.nil_append, List.replicate, List.set_cons_zero, List.set_cons_succ, true_and, and_true, if_true, List.map_cons, List.map_nil, Nat.reduceAdd, Nat.reduceSub, Nat.reduceLT, Nat.reduceLeDiff, List.length_set, List.length_map, List.length_append, List.length_range, reduceIte, reduceDIte, Bool.false_eq_true, slotOf, wb, Option.getD_some, nmOk, heldR, List.all_cons, List.all_nil, List.any_cons, List.any_nil, isNm, Bool.and_true, Bool.true_and, Bool.false_and, Bool.and_false, Bool.not_false, Bool.not_true, Bool.or_false]
  refine wS_forI (ds := tb.map encP) (l := none) (by simp (disch := first | omega | (simp only [List.length_map, List.length_append, List.length_cons, List.length_nil, List.length_set, List.length_range, sizeLine_eq]; done) | (simp only [List.length_map, List.length_append, List.length_cons, List.length_nil, List.length_set, List.length_range, sizeLine_eq]; omega)) only [↓wM_bd, ↓wM_pr, ↓wM_opt, ↓wM_C, ↓wM_var, ↓wM_look_fz, ↓wM_look_ow, ↓wM_look_nm, ↓wM_frz_fz, ↓wM_frz_ow, ↓wM_frz_nm, ↓wM_op2, ↓wM_op2T, ↓wO_gB, ↓wM_op1, ↓wM_nil, ↓wM_cons, ↓wM_frzA0, ↓wM_frzA, ↓wM_lookA0, ↓wM_lookA, ↓wM_tup, ↓wM_lst, ↓wM_B, ↓wM_isi, ↓wM_me, ↓wM_sl, ↓wM_noP, ↓wM_part, ↓wM_key, ↓wM_call, ↓wM_argSA0, ↓wM_argSA, ↓wM_argS_fz, ↓wM_argS_ow, ↓wM_argS_nm, ↓wM_mut, ↓wM_yes, ↓wM_rng1, ↓wM_rng2, ↓wM_wkV, ↓wM_wkT, ↓wM_wkL, ↓wM_wk2, ↓wM_wkB, ↓wM_wkC, ↓wM_wkS, ↓wM_wk1, ↓wM_wkLc, ↓wM_wkIf, ↓wM_wkLR, ↓wM_rng3, ↓wM_zip, ↓wM_rga1, ↓wM_rga2, ↓wM_lrg, ↓wM_trg, ↓wM_not, ↓wM_tru, ↓wM_and, ↓wM_or, ↓wM_andV, ↓wM_orV, ↓wM_notV, ↓wM_ifE, ↓wM_chain, ↓wM_chainT, ↓wM_dispN, ↓wM_pairs0, ↓wM_pairs, ↓wM_new, ↓wO_gsC, ↓wS_seq, ↓wS_pass, ↓wS_brk, ↓wS_cnt, ↓wS_ret, ↓wS_drop, ↓wS_if, ↓wS_set, ↓wS_asg, ↓wS_par, ↓wS_put, ↓wS_augS, ↓wS_aug, ↓wM_run', wO_some, varK_fz, varK_ow, varK_lk, lookK_fz, lookK_ow, lookK_lk, frzK_fz, frzK_ow, frzK_lk, argK_fz, argK_owt, argK_owf, argK_lkt, argK_lkf, mutK_ow', mutO_ow, putK'_ow, getK_ow, fzO_fz, augK_fz, intD_int, retK_fz, retK_ow, retK_nm, retO_fz, retO_ow, retO_lk, setR_fz, setR_ow, setR_nm, setK_fz, setK_ow, setK_lk, tru_b, tru_n, tru_l, tru_t, key_i, key_s, gIAdd_ii, gISub_ii, gPow_18, gN_ok, gsN_ok, gT_ok, setQs_nil, setQs_fz, setQs_ow, outP_t, outP_f, outP_n, wkO_fz, wkO_ow, wkO_lk, wk_fz, wk_ow, wk_nm, items_l, items_t, unl_none, unl_some, unlK_lk, callK_R, callR_fz, callR_ow, rest_nil, rest_cons, restK_some, wipe_nil, wipe_cons, gAdd_ii, gSub_ii, gMul_l, gMul_r, gDiv_ii, gMod_ii, gNeg_i, gEq_ii, gEq_ss, gEq_bb, gNe_ii, gNe_ss, gLt_ii, gLe_ii, gGt_ii, gGe_ii, gIx_l0, gIx_t0, gIx_l1, gIx_t1, gIx_l2, gIx_t2, gIx_t3, gIx_tz, gRev_l, gRev_t, zipD_ll, zipD_tl, zipD_lt, zipD_tt, int1_ok, int2_ok, gLen_l, gLen_t, gLen_d, gAbs_i, gAppend_l, gExtend_l, gInt_i, gTuple_l, gTuple_t, gList_l, gList_t, gMax_ii, gMin_ii, gSum_l, gIs_none, isLst, isT, isOw, List.getElem?_cons_zero, List.getElem?_cons_succ, List.length_cons, List.length_nil, List.cons_append, List.nil_append, List.replicate, List.set_cons_zero, List.set_cons_succ, true_and, and_true, if_true, List.map_cons, List.map_nil, Nat.reduceAdd, Nat.reduceSub, Nat.reduceLT, Nat.reduceLeDiff, List.length_set, List.length_map, List.length_append, List.length_range, reduceIte, reduceDIte, Bool.false_eq_true, slotOf, wb, Option.getD_some, nmOk, heldR, List.all_cons, List.all_nil, List.any_cons, List.any_nil, isNm, Bool.and_true, Bool.true_and, Bool.false_and, Bool.and_false, Bool.not_false, Bool.not_true, Bool.or_false, rng1_ok, rng2_ok] <;> (first | exact ⟨rfl, rfl⟩ | exact rfl)) (fun k ρ => ∃ (s2 s3 : Sl), ρ = [.fz (.tuple (tb.map encP)), .ow (.list (((tb.take k).foldl ltS []).map encP)), s2, s3]) ⟨_, _, rfl⟩ ?_ ?_
  · rintro k d ρ hd ⟨s2, s3, rfl⟩
    obtain ⟨hk, rfl⟩ := at_map hd
    have htk : tb.take (k + 1) = tb.take k ++ [tb[k]] := List.take_succ_eq_append_getElem hk
    rw [htk, List.foldl_append, List.foldl_cons, List.foldl_nil]
    have hfl : ((tb.take k).foldl ltS []).length ≤ 20 := Nat.le_trans (foldl_len _ _) (by rw [List.length_take, List.length_nil]; omega)
    generalize (tb.take k).foldl ltS [] = fo at hfl
    generalize tb[k] = t
    rw [show encP t = .tuple [.int t.1, .int t.2] from rfl]
    rcases List.eq_nil_or_concat fo with e | ⟨ini, x, e⟩
    · subst e
      simp (disch := first | omega | (simp only [List.length_map, List.length_append, List.length_cons, List.length_nil, List.length_set, List.length_range, sizeLine_eq]; done) | (simp only [List.length_map, List.length_append, List.length_cons, List.length_nil, List.length_set, List.length_range, sizeLine_eq]; omega)) only [↓wM_bd, ↓wM_pr, ↓wM_opt, ↓wM_C, ↓wM_var, ↓wM_look_fz, ↓wM_look_ow, ↓wM_look_nm, ↓wM_frz_fz, ↓wM_frz_ow, ↓wM_frz_nm, ↓wM_op2, ↓wM_op2T, ↓wO_gB, ↓wM_op1, ↓wM_nil, ↓wM_cons, ↓wM_frzA0, ↓wM_frzA, ↓wM_lookA0, ↓wM_lookA, ↓wM_tup, ↓wM_lst, ↓wM_B, ↓wM_isi, ↓wM_me, ↓wM_sl, ↓wM_noP, ↓wM_part, ↓wM_key, ↓wM_call, ↓wM_argSA0, ↓wM_argSA, ↓wM_argS_fz, ↓wM_argS_ow, ↓wM_argS_nm, ↓wM_mut, ↓wM_yes, ↓wM_rng1, ↓wM_rng2, ↓wM_wkV, ↓wM_wkT, ↓wM_wkL, ↓wM_wk2, ↓wM_wkB, ↓wM_wkC, ↓wM_wkS, ↓wM_wk1, ↓wM_wkLc, ↓wM_wkIf, ↓wM_wkLR, ↓wM_rng3, ↓wM_zip, ↓wM_rga1, ↓wM_rga2, ↓wM_lrg, ↓wM_trg, ↓wM_not, ↓wM_tru, ↓wM_and, ↓wM_or, ↓wM_andV, ↓wM_orV, ↓wM_notV, ↓wM_ifE, ↓wM_chain, ↓wM_chainT, ↓wM_dispN, ↓wM_pairs0, ↓wM_pairs, ↓wM_new, ↓wO_gsC, ↓wS_seq, ↓wS_pass, ↓wS_brk, ↓wS_cnt, ↓wS_ret, ↓wS_drop, ↓wS_if, ↓wS_set, ↓wS_asg, ↓wS_par, ↓wS_put, ↓wS_augS, ↓wS_aug, ↓wM_run', wO_some, varK_fz, varK_ow, varK_lk, lookK_fz, lookK_ow, lookK_lk, frzK_fz, frzK_ow, frzK_lk, argK_fz, argK_owt, argK_owf, argK_lkt, argK_lkf, mutK_ow', mutO_ow, putK'_ow, getK_ow, fzO_fz, augK_fz, intD_int, retK_fz, retK_ow, retK_nm, retO_fz, retO_ow, retO_lk, setR_fz, setR_ow, setR_nm, setK_fz, setK_ow, setK_lk, tru_b, tru_n, tru_l, tru_t, key_i, key_s, gIAdd_ii, gISub_ii, gPow_18, gN_ok, gsN_ok, gT_ok, setQs_nil, setQs_fz, setQs_ow, outP_t, outP_f, outP_n, wkO_fz, wkO_ow, wkO_lk, wk_fz, wk_ow, wk_nm, items_l, items_t, unl_none, unl_some, unlK_lk, callK_R, callR_fz, callR_ow, rest_nil, rest_cons, restK_some, wipe_nil, wipe_cons, gAdd_ii, gSub_ii, gMul_l, gMul_r, gDiv_ii, gMod_ii, gNeg_i, gEq_ii, gEq_ss, gEq_bb, gNe_ii, gNe_ss, gLt_ii, gLe_ii, gGt_ii, gGe_ii, gIx_l0, gIx_t0, gIx_l1, gIx_t1, gIx_l2, gIx_t2, gIx_t3, gIx_tz, gRev_l, gRev_t, zipD_ll, zipD_tl, zipD_lt, zipD_tt, int1_ok, int2_ok, gLen_l, gLen_t, gLen_d, gAbs_i, gAppend_l, gExtend_l, gInt_i, gTuple_l, gTuple_t, gList_l, gList_t, gMax_ii, gMin_ii, gSum_l, gIs_none, isLst, isT, isOw, List.getElem?_cons_zero, List.getElem?_cons_succ, List.length_cons, List.length_nil, List.cons_append, List.nil_append, List.replicate, List.set_cons_zero, List.set_cons_succ, true_and, and_true, if_true, List.map_cons, List.map_nil, Nat.reduceAdd, Nat.reduceSub, Nat.reduceLT, Nat.reduceLeDiff, List.length_set, List.length_map, List.length_append, List.length_range, reduceIte, reduceDIte, Bool.false_eq_true, slotOf, wb, Option.getD_some, nmOk, heldR, List.all_cons, List.all_nil, List.any_cons, List.any_nil, isNm, Bool.and_true, Bool.true_and, Bool.false_and, Bool.and_false, Bool.not_false, Bool.not_true, Bool.or_false, gEq_nil]
      exact ⟨_, _, rfl⟩
    · rw [List.concat_eq_append] at e
      subst e
      have hfl2 : ini.length ≤ 20 := by simp at hfl; omega
      have hsh := encPs_sh (ini ++ [x])
      have he : gEq (.list (ini.map encP ++ [encP x])) (.list []) = some false := by
        rw [List.map_append] at hsh
        rw [show [encP x] = [x].map encP from rfl, gEq_lnil hsh]; cases ini <;> rfl
      have hx1 : gIx (encP x) (.int 1) = some (.fz (.int x.2)) := rfl
      have hS : ltS (ini ++ [x]) t = if x.2 = t.2 then ini ++ [x] else ini ++ [x] ++ [t] := by
        unfold ltS; rw [List.getLast?_append]; rfl
      rw [hS]
      by_cases hc : x.2 = t.2
      · rw [if_pos hc]
        simp (disch := first | omega | (simp only [List.length_map, List.length_append, List.length_cons, List.length_nil, List.length_set, List.length_range, sizeLine_eq]; done) | (simp only [List.length_map, List.length_append, List.length_cons, List.length_nil, List.length_set, List.length_range, sizeLine_eq]; omega)) only [↓wM_bd, ↓wM_pr, ↓wM_opt, ↓wM_C, ↓wM_var, ↓wM_look_fz, ↓wM_look_ow, ↓wM_look_nm, ↓wM_frz_fz, ↓wM_frz_ow, ↓wM_frz_nm, ↓wM_op2, ↓wM_op2T, ↓wO_gB, ↓wM_op1, ↓wM_nil, ↓wM_cons, ↓wM_frzA0, ↓wM_frzA, ↓wM_lookA0, ↓wM_lookA, ↓wM_tup, ↓wM_lst, ↓wM_B, ↓wM_isi, ↓wM_me, ↓wM_sl, ↓wM_noP, ↓wM_part, ↓wM_key, ↓wM_call, ↓wM_argSA0, ↓wM_argSA, ↓wM_argS_fz, ↓wM_argS_ow, ↓wM_argS_nm, ↓wM_mut, ↓wM_yes, ↓wM_rng1, ↓wM_rng2, ↓wM_wkV, ↓wM_wkT, ↓wM_wkL, ↓wM_wk2, ↓wM_wkB, ↓wM_wkC, ↓wM_wkS, ↓wM_wk1, ↓wM_wkLc, ↓wM_wkIf, ↓wM_wkLR, ↓wM_rng3, ↓wM_zip, ↓wM_rga1, ↓wM_rga2, ↓wM_lrg, ↓wM_trg, ↓wM_not, ↓wM_tru, ↓wM_and, ↓wM_or, ↓wM_andV, ↓wM_orV, ↓wM_notV, ↓wM_ifE, ↓wM_chain, ↓wM_chainT, ↓wM_dispN, ↓wM_pairs0, ↓wM_pairs, ↓wM_new, ↓wO_gsC, ↓wS_seq, ↓wS_pass, ↓wS_brk, ↓wS_cnt, ↓wS_ret, ↓wS_drop, ↓wS_if, ↓wS_set, ↓wS_asg, ↓wS_par, ↓wS_put, ↓wS_augS, ↓wS_aug, ↓wM_run', wO_some, varK_fz, varK_ow, varK_lk, lookK_fz, lookK_ow, lookK_lk, frzK_fz, frzK_ow, frzK_lk, argK_fz, argK_owt, argK_owf, argK_lkt, argK_lkf, mutK_ow', mutO_ow, putK'_ow, getK_ow, fzO_fz, augK_fz, intD_int, retK_fz, retK_ow, retK_nm, retO_fz, retO_ow, retO_lk, setR_fz, setR_ow, setR_nm, setK_fz, setK_ow, setK_lk, tru_b, tru_n, tru_l, tru_t, key_i, key_s, gIAdd_ii, gISub_ii, gPow_18, gN_ok, gsN_ok, gT_ok, setQs_nil, setQs_fz, setQs_ow, outP_t, outP_f, outP_n, wkO_fz, wkO_ow, wkO_lk, wk_fz, wk_ow, wk_nm, items_l, items_t, unl_none, unl_some, unlK_lk, callK_R, callR_fz, callR_ow, rest_nil, rest_cons, restK_some, wipe_nil, wipe_cons, gAdd_ii, gSub_ii, gMul_l, gMul_r, gDiv_ii, gMod_ii, gNeg_i, gEq_ii, gEq_ss, gEq_bb, gNe_ii, gNe_ss, gLt_ii, gLe_ii, gGt_ii, gGe_ii, gIx_l0, gIx_t0, gIx_l1, gIx_t1, gIx_l2, gIx_t2, gIx_t3, gIx_tz, gRev_l, gRev_t, zipD_ll, zipD_tl, zipD_lt, zipD_tt, int1_ok, int2_ok, gLen_l, gLen_t, gLen_d, gAbs_i, gAppend_l, gExtend_l, gInt_i, gTuple_l, gTuple_t, gList_l, gList_t, gMax_ii, gMin_ii, gSum_l, gIs_none, isLst, isT, isOw, List.getElem?_cons_zero, List.getElem?_cons_succ, List.length_cons, List.length_nil, List.cons_append, List.nil_append, List.replicate, List.set_cons_zero, List.set_cons_succ, true_and, and_true, if_true, List.map_cons, List.map_nil, Nat.reduceAdd, Nat.reduceSub, Nat.reduceLT, Nat.reduceLeDiff, List.length_set, List.length_map, List.length_append, List.length_range, reduceIte, reduceDIte, Bool.false_eq_true, slotOf, wb, Option.getD_some, nmOk, heldR, List.all_cons, List.all_nil, List.any_cons, List.any_nil, isNm, Bool.and_true, Bool.true_and, Bool.false_and, Bool.and_false, Bool.not_false, Bool.not_true, Bool.or_false, List.map_append, he, gIx_lz, Int.reduceNeg, hx1, hc, decide_true]
        exact ⟨_, _, rfl⟩
      · rw [if_neg hc]
        simp (disch := first | omega | (simp only [List.length_map, List.length_append, List.length_cons, List.length_nil, List.length_set, List.length_range, sizeLine_eq]; done) | (simp only [List.length_map, List.length_append, List.length_cons, List.length_nil, List.length_set, List.length_range, sizeLine_eq]; omega)) only [↓wM_bd, ↓wM_pr, ↓wM_opt, ↓wM_C, ↓wM_var, ↓wM_look_fz, ↓wM_look_ow, ↓wM_look_nm, ↓wM_frz_fz, ↓wM_frz_ow, ↓wM_frz_nm, ↓wM_op2, ↓wM_op2T, ↓wO_gB, ↓wM_op1, ↓wM_nil, ↓wM_cons, ↓wM_frzA0, ↓wM_frzA, ↓wM_lookA0, ↓wM_lookA, ↓wM_tup, ↓wM_lst, ↓wM_B, ↓wM_isi, ↓wM_me, ↓wM_sl, ↓wM_noP, ↓wM_part, ↓wM_key, ↓wM_call, ↓wM_argSA0, ↓wM_argSA, ↓wM_argS_fz, ↓wM_argS_ow, ↓wM_argS_nm, ↓wM_mut, ↓wM_yes, ↓wM_rng1, ↓wM_rng2, ↓wM_wkV, ↓wM_wkT, ↓wM_wkL, ↓wM_wk2, ↓wM_wkB, ↓wM_wkC, ↓wM_wkS, ↓wM_wk1, ↓wM_wkLc, ↓wM_wkIf, ↓wM_wkLR, ↓wM_rng3, ↓wM_zip, ↓wM_rga1, ↓wM_rga2, ↓wM_lrg, ↓wM_trg, ↓wM_not, ↓wM_tru, ↓wM_and, ↓wM_or, ↓wM_andV, ↓wM_orV, ↓wM_notV, ↓wM_ifE, ↓wM_chain, ↓wM_chainT, ↓wM_dispN, ↓wM_pairs0, ↓wM_pairs, ↓wM_new, ↓wO_gsC, ↓wS_seq, ↓wS_pass, ↓wS_brk, ↓wS_cnt, ↓wS_ret, ↓wS_drop, ↓wS_if, ↓wS_set, ↓wS_asg, ↓wS_par, ↓wS_put, ↓wS_augS, ↓wS_aug, ↓wM_run', wO_some, varK_fz, varK_ow, varK_lk, lookK_fz, lookK_ow, lookK_lk, frzK_fz, frzK_ow, frzK_lk, argK_fz, argK_owt, argK_owf, argK_lkt, argK_lkf, mutK_ow', mutO_ow, putK'_ow, getK_ow, fzO_fz, augK_fz, intD_int, retK_fz, retK_ow, retK_nm, retO_fz, retO_ow, retO_lk, setR_fz, setR_ow, setR_nm, setK_fz, setK_ow, setK_lk, tru_b, tru_n, tru_l, tru_t, key_i, key_s, gIAdd_ii, gISub_ii, gPow_18, gN_ok, gsN_ok, gT_ok, setQs_nil, setQs_fz, setQs_ow, outP_t, outP_f, outP_n, wkO_fz, wkO_ow, wkO_lk, wk_fz, wk_ow, wk_nm, items_l, items_t, unl_none, unl_some, unlK_lk, callK_R, callR_fz, callR_ow, rest_nil, rest_cons, restK_some, wipe_nil, wipe_cons, gAdd_ii, gSub_ii, gMul_l, gMul_r, gDiv_ii, gMod_ii, gNeg_i, gEq_ii, gEq_ss, gEq_bb, gNe_ii, gNe_ss, gLt_ii, gLe_ii, gGt_ii, gGe_ii, gIx_l0, gIx_t0, gIx_l1, gIx_t1, gIx_l2, gIx_t2, gIx_t3, gIx_tz, gRev_l, gRev_t, zipD_ll, zipD_tl, zipD_lt, zipD_tt, int1_ok, int2_ok, gLen_l, gLen_t, gLen_d, gAbs_i, gAppend_l, gExtend_l, gInt_i, gTuple_l, gTuple_t, gList_l, gList_t, gMax_ii, gMin_ii, gSum_l, gIs_none, isLst, isT, isOw, List.getElem?_cons_zero, List.getElem?_cons_succ, List.length_cons, List.length_nil, List.cons_append, List.nil_append, List.replicate, List.set_cons_zero, List.set_cons_succ, true_and, and_true, if_true, List.map_cons, List.map_nil, Nat.reduceAdd, Nat.reduceSub, Nat.reduceLT, Nat.reduceLeDiff, List.length_set, List.length_map, List.length_append, List.length_range, reduceIte, reduceDIte, Bool.false_eq_true, slotOf, wb, Option.getD_some, nmOk, heldR, List.all_cons, List.all_nil, List.any_cons, List.any_nil, isNm, Bool.and_true, Bool.true_and, Bool.false_and, Bool.and_false, Bool.not_false, Bool.not_true, Bool.or_false, List.map_append, he, gIx_lz, Int.reduceNeg, hx1, hc, decide_false]
        exact ⟨_, _, rfl⟩
  · rintro ρ ⟨s2, s3, rfl⟩
    rw [List.length_map, List.take_length]
    simp (disch := first | omega | (simp only [List.length_map, List.length_append, List.length_cons, List.length_nil, List.length_set, List.length_range, sizeLine_eq]; done) | (simp only [List.length_map, List.length_append, List.length_cons, List.length_nil, List.length_set, List.length_range, sizeLine_eq]; omega)) only [↓wM_bd, ↓wM_pr, ↓wM_opt, ↓wM_C, ↓wM_var, ↓wM_look_fz, ↓wM_look_ow, ↓wM_look_nm, ↓wM_frz_fz, ↓wM_frz_ow, ↓wM_frz_nm, ↓wM_op2, ↓wM_op2T, ↓wO_gB, ↓wM_op1, ↓wM_nil, ↓wM_cons, ↓wM_frzA0, ↓wM_frzA, ↓wM_lookA0, ↓wM_lookA, ↓wM_tup, ↓wM_lst, ↓wM_B, ↓wM_isi, ↓wM_me, ↓wM_sl, ↓wM_noP, ↓wM_part, ↓wM_key, ↓wM_call, ↓wM_argSA0, ↓wM_argSA, ↓wM_argS_fz, ↓wM_argS_ow, ↓wM_argS_nm, ↓wM_mut, ↓wM_yes, ↓wM_rng1, ↓wM_rng2, ↓wM_wkV, ↓wM_wkT, ↓wM_wkL, ↓wM_wk2, ↓wM_wkB, ↓wM_wkC, ↓wM_wkS, ↓wM_wk1, ↓wM_wkLc, ↓wM_wkIf, ↓wM_wkLR, ↓wM_rng3, ↓wM_zip, ↓wM_rga1, ↓wM_rga2, ↓wM_lrg, ↓wM_trg, ↓wM_not, ↓wM_tru, ↓wM_and, ↓wM_or, ↓wM_andV, ↓wM_orV, ↓wM_notV, ↓wM_ifE, ↓wM_chain, ↓wM_chainT, ↓wM_dispN, ↓wM_pairs0, ↓wM_pairs, ↓wM_new, ↓wO_gsC, ↓wS_seq, ↓wS_pass, ↓wS_brk, ↓wS_cnt, ↓wS_ret, ↓wS_drop, ↓wS_if, ↓wS_set, ↓wS_asg, ↓wS_par, ↓wS_put, ↓wS_augS, ↓wS_aug, ↓wM_run', wO_some, varK_fz, varK_ow, varK_lk, lookK_fz, lookK_ow, lookK_lk, frzK_fz, frzK_ow, frzK_lk, argK_fz, argK_owt, argK_owf, argK_lkt, argK_lkf, mutK_ow', mutO_ow, putK'_ow, getK_ow, fzO_fz, augK_fz, intD_int, retK_fz, retK_ow, retK_nm, retO_fz, retO_ow, retO_lk, setR_fz, setR_ow, setR_nm, setK_fz, setK_ow, setK_lk, tru_b, tru_n, tru_l, tru_t, key_i, key_s, gIAdd_ii, gISub_ii, gPow_18, gN_ok, gsN_ok, gT_ok, setQs_nil, setQs_fz, setQs_ow, outP_t, outP_f, outP_n, wkO_fz, wkO_ow, wkO_lk, wk_fz, wk_ow, wk_nm, items_l, items_t, unl_none, unl_some, unlK_lk, callK_R, callR_fz, callR_ow, rest_nil, rest_cons, restK_some, wipe_nil, wipe_cons, gAdd_ii, gSub_ii, gMul_l, gMul_r, gDiv_ii, gMod_ii, gNeg_i, gEq_ii, gEq_ss, gEq_bb, gNe_ii, gNe_ss, gLt_ii, gLe_ii, gGt_ii, gGe_ii, gIx_l0, gIx_t0, gIx_l1, gIx_t1, gIx_l2, gIx_t2, gIx_t3, gIx_tz, gRev_l, gRev_t, zipD_ll, zipD_tl, zipD_lt, zipD_tt, int1_ok, int2_ok, gLen_l, gLen_t, gLen_d, gAbs_i, gAppend_l, gExtend_l, gInt_i, gTuple_l, gTuple_t, gList_l, gList_t, gMax_ii, gMin_ii, gSum_l, gIs_none, isLst, isT, isOw, List.getElem?_cons_zero, List.getElem?_cons_succ, List.length_cons, List.length_nil, List.cons_append, List.nil_append, List.replicate, List.set_cons_zero, List.set_cons_succ, true_and, and_true, if_true, List.map_cons, List.map_nil, Nat.reduceAdd, Nat.reduceSub, Nat.reduceLT, Nat.reduceLeDiff, List.length_set, List.length_map, List.length_append, List.length_range, reduceIte, reduceDIte, Bool.false_eq_true, slotOf, wb, Option.getD_some, nmOk, heldR, List.all_cons, List.all_nil, List.any_cons, List.any_nil, isNm, Bool.and_true, Bool.true_and, Bool.false_and, Bool.and_false, Bool.not_false, Bool.not_true, Bool.or_false]
    rfl
def fr (one other : List P2) : List Int := sortU ((one ++ other).map (·.1))
theorem fr_Fr (one other : List P2) : Fr (fr one other) one other := ⟨sortU_strict _, fun k => sortU_mem⟩
theorem insU_len (x : Int) : ∀ ys : List Int, (insU x ys).length ≤ ys.length + 1
  | [] => by simp [insU]
  | y :: ys => by
    unfold insU
    split
    · simp
    · split
      · simp
      · have := insU_len x ys; simp; omega
theorem sortU_len (ns : List Int) : (sortU ns).length ≤ ns.length := by
  unfold sortU
  induction ns with
  | nil => simp
  | cons n ns ih => rw [List.foldr_cons]; have := insU_len n (ns.foldr insU []); simp; omega
theorem froms_ok (one other : List P2) (h1 : one.length ≤ 8) (h2 : other.length ≤ 8) : f_froms [.fz (.tuple (one.map encP)), .fz (.tuple (other.map encP))] = .ok (.ow (.list ((fr one other).map .int))) [.fz (.tuple (one.map encP)), .fz (.tuple (other.map encP))] := by
  unfold f_froms
  apply run_eq
  unfold b_froms
  simp (disch := first | omega | (simp only [List.length_map, List.length_append, List.length_cons, List.length_nil, List.length_set, List.length_range, sizeLine_eq]; done) | (simp only [List.length_map, List.length_append, List.length_cons, List.length_nil, List.length_set, List.length_range, sizeLine_eq]; omega)) only [↓wM_bd, ↓wM_pr, ↓wM_opt, ↓wM_C, ↓wM_var, ↓wM_look_fz, ↓wM_look_ow, ↓wM_look_nm, ↓wM_frz_fz, ↓wM_frz_ow, ↓wM_frz_nm, ↓wM_op2, ↓wM_op2T, ↓wO_gB, ↓wM_op1, ↓wM_nil, ↓wM_cons, ↓wM_frzA0, ↓wM_frzA, ↓wM_lookA0, ↓wM_lookA, ↓wM_tup, ↓wM_lst, ↓wM_B, ↓wM_isi, ↓wM_me, ↓wM_sl, ↓wM_noP, ↓wM_part, ↓wM_key, ↓wM_call, ↓wM_argSA0, ↓wM_argSA, ↓wM_argS_fz, ↓wM_argS_ow, ↓wM_argS_nm, ↓wM_mut, ↓wM_yes, ↓wM_rng1, ↓wM_rng2, ↓wM_wkV, ↓wM_wkT, ↓wM_wkL, ↓wM_wk2, ↓wM_wkB, ↓wM_wkC, ↓wM_wkS, ↓wM_wk1, ↓wM_wkLc, ↓wM_wkIf, ↓wM_wkLR, ↓wM_rng3, ↓wM_zip, ↓wM_rga1, ↓wM_rga2, ↓wM_lrg, ↓wM_trg, ↓wM_not, ↓wM_tru, ↓wM_and, ↓wM_or, ↓wM_andV, ↓wM_orV, ↓wM_notV, ↓wM_ifE, ↓wM_chain, ↓wM_chainT, ↓wM_dispN, ↓wM_pairs0, ↓wM_pairs, ↓wM_new, ↓wO_gsC, ↓wS_seq, ↓wS_pass, ↓wS_brk, ↓wS_cnt, ↓wS_ret, ↓wS_drop, ↓wS_if, ↓wS_set, ↓wS_asg, ↓wS_par, ↓wS_put, ↓wS_augS, ↓wS_aug, ↓wM_run', wO_some, varK_fz, varK_ow, varK_lk, lookK_fz, lookK_ow, lookK_lk, frzK_fz, frzK_ow, frzK_lk, argK_fz, argK_owt, argK_owf, argK_lkt, argK_lkf, mutK_ow', mutO_ow, putK'_ow, getK_ow, fzO_fz, augK_fz, intD_int, retK_fz, retK_ow, retK_nm, retO_fz, retO_ow, retO_lk, setR_fz, setR_ow, setR_nm, setK_fz, setK_ow, setK_lk, tru_b, tru_n, tru_l, tru_t, key_i, key_s, gIAdd_ii, gISub_ii, gPow_18, gN_ok, gsN_ok, gT_ok, setQs_nil, setQs_fz, setQs_ow, outP_t, outP_f, outP_n, wkO_fz, wkO_ow, wkO_lk, wk_fz, wk_ow, wk_nm, items_l, items_t, unl_none, unl_some, unlK_lk, callK_R, callR_fz, callR_ow, rest_nil, rest_cons, restK_some, wipe_nil, wipe_cons, gAdd_ii, gSub_ii, gMul_l, gMul_r, gDiv_ii, gMod_ii, gNeg_i, gEq_ii, gEq_ss, gEq_bb, gNe_ii, gNe_ss, gLt_ii, gLe_ii, gGt_ii, gGe_ii, gIx_l0, gIx_t0, gIx_l1, gIx_t1, gIx_l2, gIx_t2, gIx_t3, gIx_tz, gRev_l, gRev_t, zipD_ll, zipD_tl, zipD_lt, zipD_tt, int1_ok, int2_ok, gLen_l, gLen_t, gLen_d, gAbs_i, gAppend_l, gExtend_l, gInt_i, gTuple_l, gTuple_t, gList_l, gList_t, gMax_ii, gMin_ii, gSum_l, gIs_none, isLst, isT, isOw, List.getElem?_cons_zero, List.getElem?_cons_succ, List.length_cons, List.length_nil, List.cons_append, List.nil_append, List.replicate, List.set_cons_zero, List.set_cons_succ, true_and, and_true, if_true, List.map_cons, List.map_nil, Nat.reduceAdd, Nat.reduceSub, Nat.reduceLT, Nat.reduceLeDiff, List.length_set, List.length_map, List.length_append, List.length_range, reduceIte, reduceDIte, Bool.false_eq_true, slotOf, wb, Option.getD_some, nmOk, heldR, List.all_cons, List.all_nil, List.any_cons, List.any_nil, isNm, Bool.and_true, Bool.true_and, Bool.false_and, Bool.and_false, Bool.not_false, Bool.not_true, Bool.or_false]
  refine wM_lcY (enc := encP) (xs := one ++ other) (l := none) (by
      simp (disch := first | omega | (simp only [List.length_map, List.length_append, List.length_cons, List.length_nil, List.length_set, List.length_range, sizeLine_eq]; done) | (simp only [List.length_map, List.length_append, List.length_cons, List.length_nil, List.length_set, List.length_range, sizeLine_eq]; omega)) only [↓wM_bd, ↓wM_pr, ↓wM_opt, ↓wM_C, ↓wM_var, ↓wM_look_fz, ↓wM_look_ow, ↓wM_look_nm, ↓wM_frz_fz, ↓wM_frz_ow, ↓wM_frz_nm, ↓wM_op2, ↓wM_op2T, ↓wO_gB, ↓wM_op1, ↓wM_nil, ↓wM_cons, ↓wM_frzA0, ↓wM_frzA, ↓wM_lookA0, ↓wM_lookA, ↓wM_tup, ↓wM_lst, ↓wM_B, ↓wM_isi, ↓wM_me, ↓wM_sl, ↓wM_noP, ↓wM_part, ↓wM_key, ↓wM_call, ↓wM_argSA0, ↓wM_argSA, ↓wM_argS_fz, ↓wM_argS_ow, ↓wM_argS_nm, ↓wM_mut, ↓wM_yes, ↓wM_rng1, ↓wM_rng2, ↓wM_wkV, ↓wM_wkT, ↓wM_wkL, ↓wM_wk2, ↓wM_wkB, ↓wM_wkC, ↓wM_wkS, ↓wM_wk1, ↓wM_wkLc, ↓wM_wkIf, ↓wM_wkLR, ↓wM_rng3, ↓wM_zip, ↓wM_rga1, ↓wM_rga2, ↓wM_lrg, ↓wM_trg, ↓wM_not, ↓wM_tru, ↓wM_and, ↓wM_or, ↓wM_andV, ↓wM_orV, ↓wM_notV, ↓wM_ifE, ↓wM_chain, ↓wM_chainT, ↓wM_dispN, ↓wM_pairs0, ↓wM_pairs, ↓wM_new, ↓wO_gsC, ↓wS_seq, ↓wS_pass, ↓wS_brk, ↓wS_cnt, ↓wS_ret, ↓wS_drop, ↓wS_if, ↓wS_set, ↓wS_asg, ↓wS_par, ↓wS_put, ↓wS_augS, ↓wS_aug, ↓wM_run', wO_some, varK_fz, varK_ow, varK_lk, lookK_fz, lookK_ow, lookK_lk, frzK_fz, frzK_ow, frzK_lk, argK_fz, argK_owt, argK_owf, argK_lkt, argK_lkf, mutK_ow', mutO_ow, putK'_ow, getK_ow, fzO_fz, augK_fz, intD_int, retK_fz, retK_ow, retK_nm, retO_fz, retO_ow, retO_lk, setR_fz, setR_ow, setR_nm, setK_fz, setK_ow, setK_lk, tru_b, tru_n, tru_l, tru_t, key_i, key_s, gIAdd_ii, gISub_ii, gPow_18, gN_ok, gsN_ok, gT_ok, setQs_nil, setQs_fz, setQs_ow, outP_t, outP_f, outP_n, wkO_fz, wkO_ow, wkO_lk, wk_fz, wk_ow, wk_nm, items_l, items_t, unl_none, unl_some, unlK_lk, callK_R, callR_fz, callR_ow, rest_nil, rest_cons, restK_some, wipe_nil, wipe_cons, gAdd_ii, gSub_ii, gMul_l, gMul_r, gDiv_ii, gMod_ii, gNeg_i, gEq_ii, gEq_ss, gEq_bb, gNe_ii, gNe_ss, gLt_ii, gLe_ii, gGt_ii, gGe_ii, gIx_l0, gIx_t0, gIx_l1, gIx_t1, gIx_l2, gIx_t2, gIx_t3, gIx_tz, gRev_l, gRev_t, zipD_ll, zipD_tl, zipD_lt, zipD_tt, int1_ok, int2_ok, gLen_l, gLen_t, gLen_d, gAbs_i, gAppend_l, gExtend_l, gInt_i, gTuple_l, gTuple_t, gList_l, gList_t, gMax_ii, gMin_ii, gSum_l, gIs_none, isLst, isT, isOw, List.getElem?_cons_zero, List.getElem?_cons_succ, List.length_cons, List.length_nil, List.cons_append, List.nil_append, List.replicate, List.set_cons_zero, List.set_cons_succ, true_and, and_true, if_true, List.map_cons, List.map_nil, Nat.reduceAdd, Nat.reduceSub, Nat.reduceLT, Nat.reduceLeDiff, List.length_set, List.length_map, List.length_append, List.length_range, reduceIte, reduceDIte, Bool.false_eq_true, slotOf, wb, Option.getD_some, nmOk, heldR, List.all_cons, List.all_nil, List.any_cons, List.any_nil, isNm, Bool.and_true, Bool.true_and, Bool.false_and, Bool.and_false, Bool.not_false, Bool.not_true, Bool.or_false, gAdd_tt, List.map_append]
      all_goals first | exact ⟨rfl, rfl⟩ | rfl) (fun t => .int t.1) (by rw [List.length_append, sizeLine_eq]; omega) (fun t ht => ?_) ?_
  · rw [show encP t = .tuple [.int t.1, .int t.2] from rfl]
    simp (disch := first | omega | (simp only [List.length_map, List.length_append, List.length_cons, List.length_nil, List.length_set, List.length_range, sizeLine_eq]; done) | (simp only [List.length_map, List.length_append, List.length_cons, List.length_nil, List.length_set, List.length_range, sizeLine_eq]; omega)) only [↓wM_bd, ↓wM_pr, ↓wM_opt, ↓wM_C, ↓wM_var, ↓wM_look_fz, ↓wM_look_ow, ↓wM_look_nm, ↓wM_frz_fz, ↓wM_frz_ow, ↓wM_frz_nm, ↓wM_op2, ↓wM_op2T, ↓wO_gB, ↓wM_op1, ↓wM_nil, ↓wM_cons, ↓wM_frzA0, ↓wM_frzA, ↓wM_lookA0, ↓wM_lookA, ↓wM_tup, ↓wM_lst, ↓wM_B, ↓wM_isi, ↓wM_me, ↓wM_sl, ↓wM_noP, ↓wM_part, ↓wM_key, ↓wM_call, ↓wM_argSA0, ↓wM_argSA, ↓wM_argS_fz, ↓wM_argS_ow, ↓wM_argS_nm, ↓wM_mut, ↓wM_yes, ↓wM_rng1, ↓wM_rng2, ↓wM_wkV, ↓wM_wkT, ↓wM_wkL, ↓wM_wk2, ↓wM_wkB, ↓wM_wkC, ↓wM_wkS, ↓wM_wk1, ↓wM_wkLc, ↓wM_wkIf, ↓wM_wkLR, ↓wM_rng3, ↓wM_zip, ↓wM_rga1, ↓wM_rga2, ↓wM_lrg, ↓wM_trg, ↓wM_not, ↓wM_tru, ↓wM_and, ↓wM_or, ↓wM_andV, ↓wM_orV, ↓wM_notV, ↓wM_ifE, ↓wM_chain, ↓wM_chainT, ↓wM_dispN, ↓wM_pairs0, ↓wM_pairs, ↓wM_new, ↓wO_gsC, ↓wS_seq, ↓wS_pass, ↓wS_brk, ↓wS_cnt, ↓wS_ret, ↓wS_drop, ↓wS_if, ↓wS_set, ↓wS_asg, ↓wS_par, ↓wS_put, ↓wS_augS, ↓wS_aug, ↓wM_run', wO_some, varK_fz, varK_ow, varK_lk, lookK_fz, lookK_ow, lookK_lk, frzK_fz, frzK_ow, frzK_lk, argK_fz, argK_owt, argK_owf, argK_lkt, argK_lkf, mutK_ow', mutO_ow, putK'_ow, getK_ow, fzO_fz, augK_fz, intD_int, retK_fz, retK_ow, retK_nm, retO_fz, retO_ow, retO_lk, setR_fz, setR_ow, setR_nm, setK_fz, setK_ow, setK_lk, tru_b, tru_n, tru_l, tru_t, key_i, key_s, gIAdd_ii, gISub_ii, gPow_18, gN_ok, gsN_ok, gT_ok, setQs_nil, setQs_fz, setQs_ow, outP_t, outP_f, outP_n, wkO_fz, wkO_ow, wkO_lk, wk_fz, wk_ow, wk_nm, items_l, items_t, unl_none, unl_some, unlK_lk, callK_R, callR_fz, callR_ow, rest_nil, rest_cons, restK_some, wipe_nil, wipe_cons, gAdd_ii, gSub_ii, gMul_l, gMul_r, gDiv_ii, gMod_ii, gNeg_i, gEq_ii, gEq_ss, gEq_bb, gNe_ii, gNe_ss, gLt_ii, gLe_ii, gGt_ii, gGe_ii, gIx_l0, gIx_t0, gIx_l1, gIx_t1, gIx_l2, gIx_t2, gIx_t3, gIx_tz, gRev_l, gRev_t, zipD_ll, zipD_tl, zipD_lt, zipD_tt, int1_ok, int2_ok, gLen_l, gLen_t, gLen_d, gAbs_i, gAppend_l, gExtend_l, gInt_i, gTuple_l, gTuple_t, gList_l, gList_t, gMax_ii, gMin_ii, gSum_l, gIs_none, isLst, isT, isOw, List.getElem?_cons_zero, List.getElem?_cons_succ, List.length_cons, List.length_nil, List.cons_append, List.nil_append, List.replicate, List.set_cons_zero, List.set_cons_succ, true_and, and_true, if_true, List.map_cons, List.map_nil, Nat.reduceAdd, Nat.reduceSub, Nat.reduceLT, Nat.reduceLeDiff, List.length_set, List.length_map, List.length_append, List.length_range, reduceIte, reduceDIte, Bool.false_eq_true, slotOf, wb, Option.getD_some, nmOk, heldR, List.all_cons, List.all_nil, List.any_cons, List.any_nil, isNm, Bool.and_true, Bool.true_and, Bool.false_and, Bool.and_false, Bool.not_false, Bool.not_true, Bool.or_false]
  · rw [show ((one ++ other).map fun t => PyData.int t.1) = ((one ++ other).map (·.1)).map .int by rw [List.map_map]; rfl]
    have hg := gSS_l (ns := (one ++ other).map (·.1)) (by rw [List.length_map, List.length_append]; omega)
    simp (disch := first | omega | (simp only [List.length_map, List.length_append, List.length_cons, List.length_nil, List.length_set, List.length_range, sizeLine_eq]; done) | (simp only [List.length_map, List.length_append, List.length_cons, List.length_nil, List.length_set, List.length_range, sizeLine_eq]; omega)) only [↓wM_bd, ↓wM_pr, ↓wM_opt, ↓wM_C, ↓wM_var, ↓wM_look_fz, ↓wM_look_ow, ↓wM_look_nm, ↓wM_frz_fz, ↓wM_frz_ow, ↓wM_frz_nm, ↓wM_op2, ↓wM_op2T, ↓wO_gB, ↓wM_op1, ↓wM_nil, ↓wM_cons, ↓wM_frzA0, ↓wM_frzA, ↓wM_lookA0, ↓wM_lookA, ↓wM_tup, ↓wM_lst, ↓wM_B, ↓wM_isi, ↓wM_me, ↓wM_sl, ↓wM_noP, ↓wM_part, ↓wM_key, ↓wM_call, ↓wM_argSA0, ↓wM_argSA, ↓wM_argS_fz, ↓wM_argS_ow, ↓wM_argS_nm, ↓wM_mut, ↓wM_yes, ↓wM_rng1, ↓wM_rng2, ↓wM_wkV, ↓wM_wkT, ↓wM_wkL, ↓wM_wk2, ↓wM_wkB, ↓wM_wkC, ↓wM_wkS, ↓wM_wk1, ↓wM_wkLc, ↓wM_wkIf, ↓wM_wkLR, ↓wM_rng3, ↓wM_zip, ↓wM_rga1, ↓wM_rga2, ↓wM_lrg, ↓wM_trg, ↓wM_not, ↓wM_tru, ↓wM_and, ↓wM_or, ↓wM_andV, ↓wM_orV, ↓wM_notV, ↓wM_ifE, ↓wM_chain, ↓wM_chainT, ↓wM_dispN, ↓wM_pairs0, ↓wM_pairs, ↓wM_new, ↓wO_gsC, ↓wS_seq, ↓wS_pass, ↓wS_brk, ↓wS_cnt, ↓wS_ret, ↓wS_drop, ↓wS_if, ↓wS_set, ↓wS_asg, ↓wS_par, ↓wS_put, ↓wS_augS, ↓wS_aug, ↓wM_run', wO_some, varK_fz, varK_ow, varK_lk, lookK_fz, lookK_ow, lookK_lk, frzK_fz, frzK_ow, frzK_lk, argK_fz, argK_owt, argK_owf, argK_lkt, argK_lkf, mutK_ow', mutO_ow, putK'_ow, getK_ow, fzO_fz, augK_fz, intD_int, retK_fz, retK_ow, retK_nm, retO_fz, retO_ow, retO_lk, setR_fz, setR_ow, setR_nm, setK_fz, setK_ow, setK_lk, tru_b, tru_n, tru_l, tru_t, key_i, key_s, gIAdd_ii, gISub_ii, gPow_18, gN_ok, gsN_ok, gT_ok, setQs_nil, setQs_fz, setQs_ow, outP_t, outP_f, outP_n, wkO_fz, wkO_ow, wkO_lk, wk_fz, wk_ow, wk_nm, items_l, items_t, unl_none, unl_some, unlK_lk, callK_R, callR_fz, callR_ow, rest_nil, rest_cons, restK_some, wipe_nil, wipe_cons, gAdd_ii, gSub_ii, gMul_l, gMul_r, gDiv_ii, gMod_ii, gNeg_i, gEq_ii, gEq_ss, gEq_bb, gNe_ii, gNe_ss, gLt_ii, gLe_ii, gGt_ii, gGe_ii, gIx_l0, gIx_t0, gIx_l1, gIx_t1, gIx_l2, gIx_t2, gIx_t3, gIx_tz, gRev_l, gRev_t, zipD_ll, zipD_tl, zipD_lt, zipD_tt, int1_ok, int2_ok, gLen_l, gLen_t, gLen_d, gAbs_i, gAppend_l, gExtend_l, gInt_i, gTuple_l, gTuple_t, gList_l, gList_t, gMax_ii, gMin_ii, gSum_l, gIs_none, isLst, isT, isOw, List.getElem?_cons_zero, List.getElem?_cons_succ, List.length_cons, List.length_nil, List.cons_append, List.nil_append, List.replicate, List.set_cons_zero, List.set_cons_succ, true_and, and_true, if_true, List.map_cons, List.map_nil, Nat.reduceAdd, Nat.reduceSub, Nat.reduceLT, Nat.reduceLeDiff, List.length_set, List.length_map, List.length_append, List.length_range, reduceIte, reduceDIte, Bool.false_eq_true, slotOf, wb, Option.getD_some, nmOk, heldR, List.all_cons, List.all_nil, List.any_cons, List.any_nil, isNm, Bool.and_true, Bool.true_and, Bool.false_and, Bool.and_false, Bool.not_false, Bool.not_true, Bool.or_false, hg]
    rfl
def resT (one other : List P2) : D := match fdif (fr one other) one other with
  | none => .tuple [.str "yes"]
  | some f => .tuple [.str "no", .int (f + 1)]
theorem sametables_ok (one other : List P2) (h1 : Tb one) (h2 : Tb other) (l1 : one.length ≤ 8) (l2 : other.length ≤ 8) : f_same_tables [.fz (.tuple (one.map encP)), .fz (.tuple (other.map encP))] = .ok (.fz (resT one other)) [.fz (.tuple (one.map encP)), .fz (.tuple (other.map encP))] := by
  have hF := fr_Fr one other
  have e := froms_ok one other l1 l2
  unfold f_same_tables
  apply run_eq
  unfold b_same_tables
  refine wS_seq ▸ ?_
  refine wS_forI (ds := (fr one other).map .int) (l := none) (ρ1 := [.fz (.tuple (one.map encP)), .fz (.tuple (other.map encP)), .em]) (by
      simp (disch := first | omega | (simp only [List.length_map, List.length_append, List.length_cons, List.length_nil, List.length_set, List.length_range, sizeLine_eq]; done) | (simp only [List.length_map, List.length_append, List.length_cons, List.length_nil, List.length_set, List.length_range, sizeLine_eq]; omega)) only [↓wM_bd, ↓wM_pr, ↓wM_opt, ↓wM_C, ↓wM_var, ↓wM_look_fz, ↓wM_look_ow, ↓wM_look_nm, ↓wM_frz_fz, ↓wM_frz_ow, ↓wM_frz_nm, ↓wM_op2, ↓wM_op2T, ↓wO_gB, ↓wM_op1, ↓wM_nil, ↓wM_cons, ↓wM_frzA0, ↓wM_frzA, ↓wM_lookA0, ↓wM_lookA, ↓wM_tup, ↓wM_lst, ↓wM_B, ↓wM_isi, ↓wM_me, ↓wM_sl, ↓wM_noP, ↓wM_part, ↓wM_key, ↓wM_call, ↓wM_argSA0, ↓wM_argSA, ↓wM_argS_fz, ↓wM_argS_ow, ↓wM_argS_nm, ↓wM_mut, ↓wM_yes, ↓wM_rng1, ↓wM_rng2, ↓wM_wkV, ↓wM_wkT, ↓wM_wkL, ↓wM_wk2, ↓wM_wkB, ↓wM_wkC, ↓wM_wkS, ↓wM_wk1, ↓wM_wkLc, ↓wM_wkIf, ↓wM_wkLR, ↓wM_rng3, ↓wM_zip, ↓wM_rga1, ↓wM_rga2, ↓wM_lrg, ↓wM_trg, ↓wM_not, ↓wM_tru, ↓wM_and, ↓wM_or, ↓wM_andV, ↓wM_orV, ↓wM_notV, ↓wM_ifE, ↓wM_chain, ↓wM_chainT, ↓wM_dispN, ↓wM_pairs0, ↓wM_pairs, ↓wM_new, ↓wO_gsC, ↓wS_seq, ↓wS_pass, ↓wS_brk, ↓wS_cnt, ↓wS_ret, ↓wS_drop, ↓wS_if, ↓wS_set, ↓wS_asg, ↓wS_par, ↓wS_put, ↓wS_augS, ↓wS_aug, ↓wM_run', wO_some, varK_fz, varK_ow, varK_lk, lookK_fz, lookK_ow, lookK_lk, frzK_fz, frzK_ow, frzK_lk, argK_fz, argK_owt, argK_owf, argK_lkt, argK_lkf, mutK_ow', mutO_ow, putK'_ow, getK_ow, fzO_fz, augK_fz, intD_int, retK_fz, retK_ow, retK_nm, retO_fz, retO_ow, retO_lk, setR_fz, setR_ow, setR_nm, setK_fz, setK_ow, setK_lk, tru_b, tru_n, tru_l, tru_t, key_i, key_s, gIAdd_ii, gISub_ii, gPow_18, gN_ok, gsN_ok, gT_ok, setQs_nil, setQs_fz, setQs_ow, outP_t, outP_f, outP_n, wkO_fz, wkO_ow, wkO_lk, wk_fz, wk_ow, wk_nm, items_l, items_t, unl_none, unl_some, unlK_lk, callK_R, callR_fz, callR_ow, rest_nil, rest_cons, restK_some, wipe_nil, wipe_cons, gAdd_ii, gSub_ii, gMul_l, gMul_r, gDiv_ii, gMod_ii, gNeg_i, gEq_ii, gEq_ss, gEq_bb, gNe_ii, gNe_ss, gLt_ii, gLe_ii, gGt_ii, gGe_ii, gIx_l0, gIx_t0, gIx_l1, gIx_t1, gIx_l2, gIx_t2, gIx_t3, gIx_tz, gRev_l, gRev_t, zipD_ll, zipD_tl, zipD_lt, zipD_tt, int1_ok, int2_ok, gLen_l, gLen_t, gLen_d, gAbs_i, gAppend_l, gExtend_l, gInt_i, gTuple_l, gTuple_t, gList_l, gList_t, gMax_ii, gMin_ii, gSum_l, gIs_none, isLst, isT, isOw, List.getElem?_cons_zero, List.getElem?_cons_succ, List.length_cons, List.length_nil, List.cons_append, List.nil_append, List.replicate, List.set_cons_zero, List.set_cons_succ, true_and, and_true, if_true, List.map_cons, List.map_nil, Nat.reduceAdd, Nat.reduceSub, Nat.reduceLT, Nat.reduceLeDiff, List.length_set, List.length_map, List.length_append, List.length_range, reduceIte, reduceDIte, Bool.false_eq_true, slotOf, wb, Option.getD_some, nmOk, heldR, List.all_cons, List.all_nil, List.any_cons, List.any_nil, isNm, Bool.and_true, Bool.true_and, Bool.false_and, Bool.and_false, Bool.not_false, Bool.not_true, Bool.or_false, e]) (fun k ρ => ∃ s2, ρ = [.fz (.tuple (one.map encP)), .fz (.tuple (other.map encP)), s2] ∧ ∀ f ∈ (fr one other).take k, ra one f = ra other f) ⟨_, rfl, by simp⟩ ?_ ?_
  · rintro k d ρ hd ⟨s2, rfl, hk⟩
    obtain ⟨hy, rfl⟩ := at_map hd
    have ht : (fr one other).take (k + 1) = (fr one other).take k ++ [(fr one other)[k]] := List.take_succ_eq_append_getElem hy
    have hsp : fr one other = (fr one other).take k ++ (fr one other)[k] :: (fr one other).drop (k + 1) := by
      rw [← List.drop_eq_getElem_cons hy, List.take_append_drop]
    have hm := List.getElem_mem hy
    generalize (fr one other)[k] = f at ht hm hsp
    have h0 := (hF.ge h1 h2 f hm).1
    have e1 := rateat_ok one f h1 h0
    have e2 := rateat_ok other f h2 h0
    simp (disch := first | omega | (simp only [List.length_map, List.length_append, List.length_cons, List.length_nil, List.length_set, List.length_range, sizeLine_eq]; done) | (simp only [List.length_map, List.length_append, List.length_cons, List.length_nil, List.length_set, List.length_range, sizeLine_eq]; omega)) only [↓wM_bd, ↓wM_pr, ↓wM_opt, ↓wM_C, ↓wM_var, ↓wM_look_fz, ↓wM_look_ow, ↓wM_look_nm, ↓wM_frz_fz, ↓wM_frz_ow, ↓wM_frz_nm, ↓wM_op2, ↓wM_op2T, ↓wO_gB, ↓wM_op1, ↓wM_nil, ↓wM_cons, ↓wM_frzA0, ↓wM_frzA, ↓wM_lookA0, ↓wM_lookA, ↓wM_tup, ↓wM_lst, ↓wM_B, ↓wM_isi, ↓wM_me, ↓wM_sl, ↓wM_noP, ↓wM_part, ↓wM_key, ↓wM_call, ↓wM_argSA0, ↓wM_argSA, ↓wM_argS_fz, ↓wM_argS_ow, ↓wM_argS_nm, ↓wM_mut, ↓wM_yes, ↓wM_rng1, ↓wM_rng2, ↓wM_wkV, ↓wM_wkT, ↓wM_wkL, ↓wM_wk2, ↓wM_wkB, ↓wM_wkC, ↓wM_wkS, ↓wM_wk1, ↓wM_wkLc, ↓wM_wkIf, ↓wM_wkLR, ↓wM_rng3, ↓wM_zip, ↓wM_rga1, ↓wM_rga2, ↓wM_lrg, ↓wM_trg, ↓wM_not, ↓wM_tru, ↓wM_and, ↓wM_or, ↓wM_andV, ↓wM_orV, ↓wM_notV, ↓wM_ifE, ↓wM_chain, ↓wM_chainT, ↓wM_dispN, ↓wM_pairs0, ↓wM_pairs, ↓wM_new, ↓wO_gsC, ↓wS_seq, ↓wS_pass, ↓wS_brk, ↓wS_cnt, ↓wS_ret, ↓wS_drop, ↓wS_if, ↓wS_set, ↓wS_asg, ↓wS_par, ↓wS_put, ↓wS_augS, ↓wS_aug, ↓wM_run', wO_some, varK_fz, varK_ow, varK_lk, lookK_fz, lookK_ow, lookK_lk, frzK_fz, frzK_ow, frzK_lk, argK_fz, argK_owt, argK_owf, argK_lkt, argK_lkf, mutK_ow', mutO_ow, putK'_ow, getK_ow, fzO_fz, augK_fz, intD_int, retK_fz, retK_ow, retK_nm, retO_fz, retO_ow, retO_lk, setR_fz, setR_ow, setR_nm, setK_fz, setK_ow, setK_lk, tru_b, tru_n, tru_l, tru_t, key_i, key_s, gIAdd_ii, gISub_ii, gPow_18, gN_ok, gsN_ok, gT_ok, setQs_nil, setQs_fz, setQs_ow, outP_t, outP_f, outP_n, wkO_fz, wkO_ow, wkO_lk, wk_fz, wk_ow, wk_nm, items_l, items_t, unl_none, unl_some, unlK_lk, callK_R, callR_fz, callR_ow, rest_nil, rest_cons, restK_some, wipe_nil, wipe_cons, gAdd_ii, gSub_ii, gMul_l, gMul_r, gDiv_ii, gMod_ii, gNeg_i, gEq_ii, gEq_ss, gEq_bb, gNe_ii, gNe_ss, gLt_ii, gLe_ii, gGt_ii, gGe_ii, gIx_l0, gIx_t0, gIx_l1, gIx_t1, gIx_l2, gIx_t2, gIx_t3, gIx_tz, gRev_l, gRev_t, zipD_ll, zipD_tl, zipD_lt, zipD_tt, int1_ok, int2_ok, gLen_l, gLen_t, gLen_d, gAbs_i, gAppend_l, gExtend_l, gInt_i, gTuple_l, gTuple_t, gList_l, gList_t, gMax_ii, gMin_ii, gSum_l, gIs_none, isLst, isT, isOw, List.getElem?_cons_zero, List.getElem?_cons_succ, List.length_cons, List.length_nil, List.cons_append, List.nil_append, List.replicate, List.set_cons_zero, List.set_cons_succ, true_and, and_true, if_true, List.map_cons, List.map_nil, Nat.reduceAdd, Nat.reduceSub, Nat.reduceLT, Nat.reduceLeDiff, List.length_set, List.length_map, List.length_append, List.length_range, reduceIte, reduceDIte, Bool.false_eq_true, slotOf, wb, Option.getD_some, nmOk, heldR, List.all_cons, List.all_nil, List.any_cons, List.any_nil, isNm, Bool.and_true, Bool.true_and, Bool.false_and, Bool.and_false, Bool.not_false, Bool.not_true, Bool.or_false, e1, e2]
    by_cases hc : ra one f = ra other f
    · simp (disch := first | omega | (simp only [List.length_map, List.length_append, List.length_cons, List.length_nil, List.length_set, List.length_range, sizeLine_eq]; done) | (simp only [List.length_map, List.length_append, List.length_cons, List.length_nil, List.length_set, List.length_range, sizeLine_eq]; omega)) only [↓wM_bd, ↓wM_pr, ↓wM_opt, ↓wM_C, ↓wM_var, ↓wM_look_fz, ↓wM_look_ow, ↓wM_look_nm, ↓wM_frz_fz, ↓wM_frz_ow, ↓wM_frz_nm, ↓wM_op2, ↓wM_op2T, ↓wO_gB, ↓wM_op1, ↓wM_nil, ↓wM_cons, ↓wM_frzA0, ↓wM_frzA, ↓wM_lookA0, ↓wM_lookA, ↓wM_tup, ↓wM_lst, ↓wM_B, ↓wM_isi, ↓wM_me, ↓wM_sl, ↓wM_noP, ↓wM_part, ↓wM_key, ↓wM_call, ↓wM_argSA0, ↓wM_argSA, ↓wM_argS_fz, ↓wM_argS_ow, ↓wM_argS_nm, ↓wM_mut, ↓wM_yes, ↓wM_rng1, ↓wM_rng2, ↓wM_wkV, ↓wM_wkT, ↓wM_wkL, ↓wM_wk2, ↓wM_wkB, ↓wM_wkC, ↓wM_wkS, ↓wM_wk1, ↓wM_wkLc, ↓wM_wkIf, ↓wM_wkLR, ↓wM_rng3, ↓wM_zip, ↓wM_rga1, ↓wM_rga2, ↓wM_lrg, ↓wM_trg, ↓wM_not, ↓wM_tru, ↓wM_and, ↓wM_or, ↓wM_andV, ↓wM_orV, ↓wM_notV, ↓wM_ifE, ↓wM_chain, ↓wM_chainT, ↓wM_dispN, ↓wM_pairs0, ↓wM_pairs, ↓wM_new, ↓wO_gsC, ↓wS_seq, ↓wS_pass, ↓wS_brk, ↓wS_cnt, ↓wS_ret, ↓wS_drop, ↓wS_if, ↓wS_set, ↓wS_asg, ↓wS_par, ↓wS_put, ↓wS_augS, ↓wS_aug, ↓wM_run', wO_some, varK_fz, varK_ow, varK_lk, lookK_fz, lookK_ow, lookK_lk, frzK_fz, frzK_ow, frzK_lk, argK_fz, argK_owt, argK_owf, argK_lkt, argK_lkf, mutK_ow', mutO_ow, putK'_ow, getK_ow, fzO_fz, augK_fz, intD_int, retK_fz, retK_ow, retK_nm, retO_fz, retO_ow, retO_lk, setR_fz, setR_ow, setR_nm, setK_fz, setK_ow, setK_lk, tru_b, tru_n, tru_l, tru_t, key_i, key_s, gIAdd_ii, gISub_ii, gPow_18, gN_ok, gsN_ok, gT_ok, setQs_nil, setQs_fz, setQs_ow, outP_t, outP_f, outP_n, wkO_fz, wkO_ow, wkO_lk, wk_fz, wk_ow, wk_nm, items_l, items_t, unl_none, unl_some, unlK_lk, callK_R, callR_fz, callR_ow, rest_nil, rest_cons, restK_some, wipe_nil, wipe_cons, gAdd_ii, gSub_ii, gMul_l, gMul_r, gDiv_ii, gMod_ii, gNeg_i, gEq_ii, gEq_ss, gEq_bb, gNe_ii, gNe_ss, gLt_ii, gLe_ii, gGt_ii, gGe_ii, gIx_l0, gIx_t0, gIx_l1, gIx_t1, gIx_l2, gIx_t2, gIx_t3, gIx_tz, gRev_l, gRev_t, zipD_ll, zipD_tl, zipD_lt, zipD_tt, int1_ok, int2_ok, gLen_l, gLen_t, gLen_d, gAbs_i, gAppend_l, gExtend_l, gInt_i, gTuple_l, gTuple_t, gList_l, gList_t, gMax_ii, gMin_ii, gSum_l, gIs_none, isLst, isT, isOw, List.getElem?_cons_zero, List.getElem?_cons_succ, List.length_cons, List.length_nil, List.cons_append, List.nil_append, List.replicate, List.set_cons_zero, List.set_cons_succ, true_and, and_true, if_true, List.map_cons, List.map_nil, Nat.reduceAdd, Nat.reduceSub, Nat.reduceLT, Nat.reduceLeDiff, List.length_set, List.length_map, List.length_append, List.length_range, reduceIte, reduceDIte, Bool.false_eq_true, slotOf, wb, Option.getD_some, nmOk, heldR, List.all_cons, List.all_nil, List.any_cons, List.any_nil, isNm, Bool.and_true, Bool.true_and, Bool.false_and, Bool.and_false, Bool.not_false, Bool.not_true, Bool.or_false, hc, decide_true]
      exact ⟨_, rfl, fun g hg => by
        rw [ht] at hg
        rcases List.mem_append.mp hg with q | q
        · exact hk g q
        · simp at q; subst q; exact hc⟩
    · have hf : fdif (fr one other) one other = some f := by
        unfold fdif
        rw [List.find?_eq_some_iff_append]
        exact ⟨by simpa using hc, _, _, hsp, fun g hg => by simp [hk g hg]⟩
      simp (disch := first | omega | (simp only [List.length_map, List.length_append, List.length_cons, List.length_nil, List.length_set, List.length_range, sizeLine_eq]; done) | (simp only [List.length_map, List.length_append, List.length_cons, List.length_nil, List.length_set, List.length_range, sizeLine_eq]; omega)) only [↓wM_bd, ↓wM_pr, ↓wM_opt, ↓wM_C, ↓wM_var, ↓wM_look_fz, ↓wM_look_ow, ↓wM_look_nm, ↓wM_frz_fz, ↓wM_frz_ow, ↓wM_frz_nm, ↓wM_op2, ↓wM_op2T, ↓wO_gB, ↓wM_op1, ↓wM_nil, ↓wM_cons, ↓wM_frzA0, ↓wM_frzA, ↓wM_lookA0, ↓wM_lookA, ↓wM_tup, ↓wM_lst, ↓wM_B, ↓wM_isi, ↓wM_me, ↓wM_sl, ↓wM_noP, ↓wM_part, ↓wM_key, ↓wM_call, ↓wM_argSA0, ↓wM_argSA, ↓wM_argS_fz, ↓wM_argS_ow, ↓wM_argS_nm, ↓wM_mut, ↓wM_yes, ↓wM_rng1, ↓wM_rng2, ↓wM_wkV, ↓wM_wkT, ↓wM_wkL, ↓wM_wk2, ↓wM_wkB, ↓wM_wkC, ↓wM_wkS, ↓wM_wk1, ↓wM_wkLc, ↓wM_wkIf, ↓wM_wkLR, ↓wM_rng3, ↓wM_zip, ↓wM_rga1, ↓wM_rga2, ↓wM_lrg, ↓wM_trg, ↓wM_not, ↓wM_tru, ↓wM_and, ↓wM_or, ↓wM_andV, ↓wM_orV, ↓wM_notV, ↓wM_ifE, ↓wM_chain, ↓wM_chainT, ↓wM_dispN, ↓wM_pairs0, ↓wM_pairs, ↓wM_new, ↓wO_gsC, ↓wS_seq, ↓wS_pass, ↓wS_brk, ↓wS_cnt, ↓wS_ret, ↓wS_drop, ↓wS_if, ↓wS_set, ↓wS_asg, ↓wS_par, ↓wS_put, ↓wS_augS, ↓wS_aug, ↓wM_run', wO_some, varK_fz, varK_ow, varK_lk, lookK_fz, lookK_ow, lookK_lk, frzK_fz, frzK_ow, frzK_lk, argK_fz, argK_owt, argK_owf, argK_lkt, argK_lkf, mutK_ow', mutO_ow, putK'_ow, getK_ow, fzO_fz, augK_fz, intD_int, retK_fz, retK_ow, retK_nm, retO_fz, retO_ow, retO_lk, setR_fz, setR_ow, setR_nm, setK_fz, setK_ow, setK_lk, tru_b, tru_n, tru_l, tru_t, key_i, key_s, gIAdd_ii, gISub_ii, gPow_18, gN_ok, gsN_ok, gT_ok, setQs_nil, setQs_fz, setQs_ow, outP_t, outP_f, outP_n, wkO_fz, wkO_ow, wkO_lk, wk_fz, wk_ow, wk_nm, items_l, items_t, unl_none, unl_some, unlK_lk, callK_R, callR_fz, callR_ow, rest_nil, rest_cons, restK_some, wipe_nil, wipe_cons, gAdd_ii, gSub_ii, gMul_l, gMul_r, gDiv_ii, gMod_ii, gNeg_i, gEq_ii, gEq_ss, gEq_bb, gNe_ii, gNe_ss, gLt_ii, gLe_ii, gGt_ii, gGe_ii, gIx_l0, gIx_t0, gIx_l1, gIx_t1, gIx_l2, gIx_t2, gIx_t3, gIx_tz, gRev_l, gRev_t, zipD_ll, zipD_tl, zipD_lt, zipD_tt, int1_ok, int2_ok, gLen_l, gLen_t, gLen_d, gAbs_i, gAppend_l, gExtend_l, gInt_i, gTuple_l, gTuple_t, gList_l, gList_t, gMax_ii, gMin_ii, gSum_l, gIs_none, isLst, isT, isOw, List.getElem?_cons_zero, List.getElem?_cons_succ, List.length_cons, List.length_nil, List.cons_append, List.nil_append, List.replicate, List.set_cons_zero, List.set_cons_succ, true_and, and_true, if_true, List.map_cons, List.map_nil, Nat.reduceAdd, Nat.reduceSub, Nat.reduceLT, Nat.reduceLeDiff, List.length_set, List.length_map, List.length_append, List.length_range, reduceIte, reduceDIte, Bool.false_eq_true, slotOf, wb, Option.getD_some, nmOk, heldR, List.all_cons, List.all_nil, List.any_cons, List.any_nil, isNm, Bool.and_true, Bool.true_and, Bool.false_and, Bool.and_false, Bool.not_false, Bool.not_true, Bool.or_false, hc, decide_false, resT, hf]
  · rintro ρ ⟨s2, rfl, hk⟩
    rw [List.length_map, List.take_length] at hk
    have hf : fdif (fr one other) one other = none := by
      unfold fdif
      rw [List.find?_eq_none]
      intro g hg; simp [hk g hg]
    simp (disch := first | omega | (simp only [List.length_map, List.length_append, List.length_cons, List.length_nil, List.length_set, List.length_range, sizeLine_eq]; done) | (simp only [List.length_map, List.length_append, List.length_cons, List.length_nil, List.length_set, List.length_range, sizeLine_eq]; omega)) only [↓wM_bd, ↓wM_pr, ↓wM_opt, ↓wM_C, ↓wM_var, ↓wM_look_fz, ↓wM_look_ow, ↓wM_look_nm, ↓wM_frz_fz, ↓wM_frz_ow, ↓wM_frz_nm, ↓wM_op2, ↓wM_op2T, ↓wO_gB, ↓wM_op1, ↓wM_nil, ↓wM_cons, ↓wM_frzA0, ↓wM_frzA, ↓wM_lookA0, ↓wM_lookA, ↓wM_tup, ↓wM_lst, ↓wM_B, ↓wM_isi, ↓wM_me, ↓wM_sl, ↓wM_noP, ↓wM_part, ↓wM_key, ↓wM_call, ↓wM_argSA0, ↓wM_argSA, ↓wM_argS_fz, ↓wM_argS_ow, ↓wM_argS_nm, ↓wM_mut, ↓wM_yes, ↓wM_rng1, ↓wM_rng2, ↓wM_wkV, ↓wM_wkT, ↓wM_wkL, ↓wM_wk2, ↓wM_wkB, ↓wM_wkC, ↓wM_wkS, ↓wM_wk1, ↓wM_wkLc, ↓wM_wkIf, ↓wM_wkLR, ↓wM_rng3, ↓wM_zip, ↓wM_rga1, ↓wM_rga2, ↓wM_lrg, ↓wM_trg, ↓wM_not, ↓wM_tru, ↓wM_and, ↓wM_or, ↓wM_andV, ↓wM_orV, ↓wM_notV, ↓wM_ifE, ↓wM_chain, ↓wM_chainT, ↓wM_dispN, ↓wM_pairs0, ↓wM_pairs, ↓wM_new, ↓wO_gsC, ↓wS_seq, ↓wS_pass, ↓wS_brk, ↓wS_cnt, ↓wS_ret, ↓wS_drop, ↓wS_if, ↓wS_set, ↓wS_asg, ↓wS_par, ↓wS_put, ↓wS_augS, ↓wS_aug, ↓wM_run', wO_some, varK_fz, varK_ow, varK_lk, lookK_fz, lookK_ow, lookK_lk, frzK_fz, frzK_ow, frzK_lk, argK_fz, argK_owt, argK_owf, argK_lkt, argK_lkf, mutK_ow', mutO_ow, putK'_ow, getK_ow, fzO_fz, augK_fz, intD_int, retK_fz, retK_ow, retK_nm, retO_fz, retO_ow, retO_lk, setR_fz, setR_ow, setR_nm, setK_fz, setK_ow, setK_lk, tru_b, tru_n, tru_l, tru_t, key_i, key_s, gIAdd_ii, gISub_ii, gPow_18, gN_ok, gsN_ok, gT_ok, setQs_nil, setQs_fz, setQs_ow, outP_t, outP_f, outP_n, wkO_fz, wkO_ow, wkO_lk, wk_fz, wk_ow, wk_nm, items_l, items_t, unl_none, unl_some, unlK_lk, callK_R, callR_fz, callR_ow, rest_nil, rest_cons, restK_some, wipe_nil, wipe_cons, gAdd_ii, gSub_ii, gMul_l, gMul_r, gDiv_ii, gMod_ii, gNeg_i, gEq_ii, gEq_ss, gEq_bb, gNe_ii, gNe_ss, gLt_ii, gLe_ii, gGt_ii, gGe_ii, gIx_l0, gIx_t0, gIx_l1, gIx_t1, gIx_l2, gIx_t2, gIx_t3, gIx_tz, gRev_l, gRev_t, zipD_ll, zipD_tl, zipD_lt, zipD_tt, int1_ok, int2_ok, gLen_l, gLen_t, gLen_d, gAbs_i, gAppend_l, gExtend_l, gInt_i, gTuple_l, gTuple_t, gList_l, gList_t, gMax_ii, gMin_ii, gSum_l, gIs_none, isLst, isT, isOw, List.getElem?_cons_zero, List.getElem?_cons_succ, List.length_cons, List.length_nil, List.cons_append, List.nil_append, List.replicate, List.set_cons_zero, List.set_cons_succ, true_and, and_true, if_true, List.map_cons, List.map_nil, Nat.reduceAdd, Nat.reduceSub, Nat.reduceLT, Nat.reduceLeDiff, List.length_set, List.length_map, List.length_append, List.length_range, reduceIte, reduceDIte, Bool.false_eq_true, slotOf, wb, Option.getD_some, nmOk, heldR, List.all_cons, List.all_nil, List.any_cons, List.any_nil, isNm, Bool.and_true, Bool.true_and, Bool.false_and, Bool.and_false, Bool.not_false, Bool.not_true, Bool.or_false, resT, hf]
def both (one other : List P2) : List P2 := lt (both0 (fr one other) one other)
theorem fr_len (one other : List P2) (l1 : one.length ≤ 8) (l2 : other.length ≤ 8) : (fr one other).length ≤ 16 := by
  have := sortU_len ((one ++ other).map (·.1))
  rw [List.length_map, List.length_append] at this
  unfold fr; omega
theorem sumtable_ok (one other : List P2) (h1 : Tb one) (h2 : Tb other) (l1 : one.length ≤ 8) (l2 : other.length ≤ 8) : f_sum_table [.fz (.tuple (one.map encP)), .fz (.tuple (other.map encP))] = .ok (.fz (.tuple ((both one other).map encP))) [.fz (.tuple (one.map encP)), .fz (.tuple (other.map encP))] := by
  have hF := fr_Fr one other
  have hl := fr_len one other l1 l2
  have e := froms_ok one other l1 l2
  have e2 := leasttable_ok (both0 (fr one other) one other) (by unfold both0; rw [List.length_map]; omega)
  unfold f_sum_table
  apply run_eq
  unfold b_sum_table
  simp (disch := first | omega | (simp only [List.length_map, List.length_append, List.length_cons, List.length_nil, List.length_set, List.length_range, sizeLine_eq]; done) | (simp only [List.length_map, List.length_append, List.length_cons, List.length_nil, List.length_set, List.length_range, sizeLine_eq]; omega)) only [↓wM_bd, ↓wM_pr, ↓wM_opt, ↓wM_C, ↓wM_var, ↓wM_look_fz, ↓wM_look_ow, ↓wM_look_nm, ↓wM_frz_fz, ↓wM_frz_ow, ↓wM_frz_nm, ↓wM_op2, ↓wM_op2T, ↓wO_gB, ↓wM_op1, ↓wM_nil, ↓wM_cons, ↓wM_frzA0, ↓wM_frzA, ↓wM_lookA0, ↓wM_lookA, ↓wM_tup, ↓wM_lst, ↓wM_B, ↓wM_isi, ↓wM_me, ↓wM_sl, ↓wM_noP, ↓wM_part, ↓wM_key, ↓wM_call, ↓wM_argSA0, ↓wM_argSA, ↓wM_argS_fz, ↓wM_argS_ow, ↓wM_argS_nm, ↓wM_mut, ↓wM_yes, ↓wM_rng1, ↓wM_rng2, ↓wM_wkV, ↓wM_wkT, ↓wM_wkL, ↓wM_wk2, ↓wM_wkB, ↓wM_wkC, ↓wM_wkS, ↓wM_wk1, ↓wM_wkLc, ↓wM_wkIf, ↓wM_wkLR, ↓wM_rng3, ↓wM_zip, ↓wM_rga1, ↓wM_rga2, ↓wM_lrg, ↓wM_trg, ↓wM_not, ↓wM_tru, ↓wM_and, ↓wM_or, ↓wM_andV, ↓wM_orV, ↓wM_notV, ↓wM_ifE, ↓wM_chain, ↓wM_chainT, ↓wM_dispN, ↓wM_pairs0, ↓wM_pairs, ↓wM_new, ↓wO_gsC, ↓wS_seq, ↓wS_pass, ↓wS_brk, ↓wS_cnt, ↓wS_ret, ↓wS_drop, ↓wS_if, ↓wS_set, ↓wS_asg, ↓wS_par, ↓wS_put, ↓wS_augS, ↓wS_aug, ↓wM_run', wO_some, varK_fz, varK_ow, varK_lk, lookK_fz, lookK_ow, lookK_lk, frzK_fz, frzK_ow, frzK_lk, argK_fz, argK_owt, argK_owf, argK_lkt, argK_lkf, mutK_ow', mutO_ow, putK'_ow, getK_ow, fzO_fz, augK_fz, intD_int, retK_fz, retK_ow, retK_nm, retO_fz, retO_ow, retO_lk, setR_fz, setR_ow, setR_nm, setK_fz, setK_ow, setK_lk, tru_b, tru_n, tru_l, tru_t, key_i, key_s, gIAdd_ii, gISub_ii, gPow_18, gN_ok, gsN_ok, gT_ok, setQs_nil, setQs_fz, setQs_ow, outP_t, outP_f, outP_n, wkO_fz, wkO_ow, wkO_lk, wk_fz, wk_ow, wk_nm, items_l, items_t, unl_none, unl_some, unlK_lk, callK_R, callR_fz, callR_ow, rest_nil, rest_cons, restK_some, wipe_nil, wipe_cons, gAdd_ii, gSub_ii, gMul_l, gMul_r, gDiv_ii, gMod_ii, gNeg_i, gEq_ii, gEq_ss, gEq_bb, gNe_ii, gNe_ss, gLt_ii, gLe_ii, gGt_ii, gGe_ii, gIx_l0, gIx_t0, gIx_l1, gIx_t1, gIx_l2, gIx_t2, gIx_t3, gIx_tz, gRev_l, gRev_t, zipD_ll, zipD_tl, zipD_lt, zipD_tt, int1_ok, int2_ok, gLen_l, gLen_t, gLen_d, gAbs_i, gAppend_l, gExtend_l, gInt_i, gTuple_l, gTuple_t, gList_l, gList_t, gMax_ii, gMin_ii, gSum_l, gIs_none, isLst, isT, isOw, List.getElem?_cons_zero, List.getElem?_cons_succ, List.length_cons, List.length_nil, List.cons_append, List.nil_append, List.replicate, List.set_cons_zero, List.set_cons_succ, true_and, and_true, if_true, List.map_cons, List.map_nil, Nat.reduceAdd, Nat.reduceSub, Nat.reduceLT, Nat.reduceLeDiff, List.length_set, List.length_map, List.length_append, List.length_range, reduceIte, reduceDIte, Bool.false_eq_true, slotOf, wb, Option.getD_some, nmOk, heldR, List.all_cons, List.all_nil, List.any_cons, List.any_nil, isNm, Bool.and_true, Bool.true_and, Bool.false_and, Bool.and_false, Bool.not_false, Bool.not_true, Bool.or_false]
  refine wM_lcY (enc := PyData.int) (xs := fr one other) (l := none) (by
      simp (disch := first | omega | (simp only [List.length_map, List.length_append, List.length_cons, List.length_nil, List.length_set, List.length_range, sizeLine_eq]; done) | (simp only [List.length_map, List.length_append, List.length_cons, List.length_nil, List.length_set, List.length_range, sizeLine_eq]; omega)) only [↓wM_bd, ↓wM_pr, ↓wM_opt, ↓wM_C, ↓wM_var, ↓wM_look_fz, ↓wM_look_ow, ↓wM_look_nm, ↓wM_frz_fz, ↓wM_frz_ow, ↓wM_frz_nm, ↓wM_op2, ↓wM_op2T, ↓wO_gB, ↓wM_op1, ↓wM_nil, ↓wM_cons, ↓wM_frzA0, ↓wM_frzA, ↓wM_lookA0, ↓wM_lookA, ↓wM_tup, ↓wM_lst, ↓wM_B, ↓wM_isi, ↓wM_me, ↓wM_sl, ↓wM_noP, ↓wM_part, ↓wM_key, ↓wM_call, ↓wM_argSA0, ↓wM_argSA, ↓wM_argS_fz, ↓wM_argS_ow, ↓wM_argS_nm, ↓wM_mut, ↓wM_yes, ↓wM_rng1, ↓wM_rng2, ↓wM_wkV, ↓wM_wkT, ↓wM_wkL, ↓wM_wk2, ↓wM_wkB, ↓wM_wkC, ↓wM_wkS, ↓wM_wk1, ↓wM_wkLc, ↓wM_wkIf, ↓wM_wkLR, ↓wM_rng3, ↓wM_zip, ↓wM_rga1, ↓wM_rga2, ↓wM_lrg, ↓wM_trg, ↓wM_not, ↓wM_tru, ↓wM_and, ↓wM_or, ↓wM_andV, ↓wM_orV, ↓wM_notV, ↓wM_ifE, ↓wM_chain, ↓wM_chainT, ↓wM_dispN, ↓wM_pairs0, ↓wM_pairs, ↓wM_new, ↓wO_gsC, ↓wS_seq, ↓wS_pass, ↓wS_brk, ↓wS_cnt, ↓wS_ret, ↓wS_drop, ↓wS_if, ↓wS_set, ↓wS_asg, ↓wS_par, ↓wS_put, ↓wS_augS, ↓wS_aug, ↓wM_run', wO_some, varK_fz, varK_ow, varK_lk, lookK_fz, lookK_ow, lookK_lk, frzK_fz, frzK_ow, frzK_lk, argK_fz, argK_owt, argK_owf, argK_lkt, argK_lkf, mutK_ow', mutO_ow, putK'_ow, getK_ow, fzO_fz, augK_fz, intD_int, retK_fz, retK_ow, retK_nm, retO_fz, retO_ow, retO_lk, setR_fz, setR_ow, setR_nm, setK_fz, setK_ow, setK_lk, tru_b, tru_n, tru_l, tru_t, key_i, key_s, gIAdd_ii, gISub_ii, gPow_18, gN_ok, gsN_ok, gT_ok, setQs_nil, setQs_fz, setQs_ow, outP_t, outP_f, outP_n, wkO_fz, wkO_ow, wkO_lk, wk_fz, wk_ow, wk_nm, items_l, items_t, unl_none, unl_some, unlK_lk, callK_R, callR_fz, callR_ow, rest_nil, rest_cons, restK_some, wipe_nil, wipe_cons, gAdd_ii, gSub_ii, gMul_l, gMul_r, gDiv_ii, gMod_ii, gNeg_i, gEq_ii, gEq_ss, gEq_bb, gNe_ii, gNe_ss, gLt_ii, gLe_ii, gGt_ii, gGe_ii, gIx_l0, gIx_t0, gIx_l1, gIx_t1, gIx_l2, gIx_t2, gIx_t3, gIx_tz, gRev_l, gRev_t, zipD_ll, zipD_tl, zipD_lt, zipD_tt, int1_ok, int2_ok, gLen_l, gLen_t, gLen_d, gAbs_i, gAppend_l, gExtend_l, gInt_i, gTuple_l, gTuple_t, gList_l, gList_t, gMax_ii, gMin_ii, gSum_l, gIs_none, isLst, isT, isOw, List.getElem?_cons_zero, List.getElem?_cons_succ, List.length_cons, List.length_nil, List.cons_append, List.nil_append, List.replicate, List.set_cons_zero, List.set_cons_succ, true_and, and_true, if_true, List.map_cons, List.map_nil, Nat.reduceAdd, Nat.reduceSub, Nat.reduceLT, Nat.reduceLeDiff, List.length_set, List.length_map, List.length_append, List.length_range, reduceIte, reduceDIte, Bool.false_eq_true, slotOf, wb, Option.getD_some, nmOk, heldR, List.all_cons, List.all_nil, List.any_cons, List.any_nil, isNm, Bool.and_true, Bool.true_and, Bool.false_and, Bool.and_false, Bool.not_false, Bool.not_true, Bool.or_false, e]
      all_goals first | exact ⟨rfl, rfl⟩ | rfl) (fun f => encP (f, ra one f + ra other f)) (by rw [sizeLine_eq]; omega) (fun f hf => ?_) ?_
  · have h0 := (hF.ge h1 h2 f hf).1
    have e3 := rateat_ok one f h1 h0
    have e4 := rateat_ok other f h2 h0
    simp (disch := first | omega | (simp only [List.length_map, List.length_append, List.length_cons, List.length_nil, List.length_set, List.length_range, sizeLine_eq]; done) | (simp only [List.length_map, List.length_append, List.length_cons, List.length_nil, List.length_set, List.length_range, sizeLine_eq]; omega)) only [↓wM_bd, ↓wM_pr, ↓wM_opt, ↓wM_C, ↓wM_var, ↓wM_look_fz, ↓wM_look_ow, ↓wM_look_nm, ↓wM_frz_fz, ↓wM_frz_ow, ↓wM_frz_nm, ↓wM_op2, ↓wM_op2T, ↓wO_gB, ↓wM_op1, ↓wM_nil, ↓wM_cons, ↓wM_frzA0, ↓wM_frzA, ↓wM_lookA0, ↓wM_lookA, ↓wM_tup, ↓wM_lst, ↓wM_B, ↓wM_isi, ↓wM_me, ↓wM_sl, ↓wM_noP, ↓wM_part, ↓wM_key, ↓wM_call, ↓wM_argSA0, ↓wM_argSA, ↓wM_argS_fz, ↓wM_argS_ow, ↓wM_argS_nm, ↓wM_mut, ↓wM_yes, ↓wM_rng1, ↓wM_rng2, ↓wM_wkV, ↓wM_wkT, ↓wM_wkL, ↓wM_wk2, ↓wM_wkB, ↓wM_wkC, ↓wM_wkS, ↓wM_wk1, ↓wM_wkLc, ↓wM_wkIf, ↓wM_wkLR, ↓wM_rng3, ↓wM_zip, ↓wM_rga1, ↓wM_rga2, ↓wM_lrg, ↓wM_trg, ↓wM_not, ↓wM_tru, ↓wM_and, ↓wM_or, ↓wM_andV, ↓wM_orV, ↓wM_notV, ↓wM_ifE, ↓wM_chain, ↓wM_chainT, ↓wM_dispN, ↓wM_pairs0, ↓wM_pairs, ↓wM_new, ↓wO_gsC, ↓wS_seq, ↓wS_pass, ↓wS_brk, ↓wS_cnt, ↓wS_ret, ↓wS_drop, ↓wS_if, ↓wS_set, ↓wS_asg, ↓wS_par, ↓wS_put, ↓wS_augS, ↓wS_aug, ↓wM_run', wO_some, varK_fz, varK_ow, varK_lk, lookK_fz, lookK_ow, lookK_lk, frzK_fz, frzK_ow, frzK_lk, argK_fz, argK_owt, argK_owf, argK_lkt, argK_lkf, mutK_ow', mutO_ow, putK'_ow, getK_ow, fzO_fz, augK_fz, intD_int, retK_fz, retK_ow, retK_nm, retO_fz, retO_ow, retO_lk, setR_fz, setR_ow, setR_nm, setK_fz, setK_ow, setK_lk, tru_b, tru_n, tru_l, tru_t, key_i, key_s, gIAdd_ii, gISub_ii, gPow_18, gN_ok, gsN_ok, gT_ok, setQs_nil, setQs_fz, setQs_ow, outP_t, outP_f, outP_n, wkO_fz, wkO_ow, wkO_lk, wk_fz, wk_ow, wk_nm, items_l, items_t, unl_none, unl_some, unlK_lk, callK_R, callR_fz, callR_ow, rest_nil, rest_cons, restK_some, wipe_nil, wipe_cons, gAdd_ii, gSub_ii, gMul_l, gMul_r, gDiv_ii, gMod_ii, gNeg_i, gEq_ii, gEq_ss, gEq_bb, gNe_ii, gNe_ss, gLt_ii, gLe_ii, gGt_ii, gGe_ii, gIx_l0, gIx_t0, gIx_l1, gIx_t1, gIx_l2, gIx_t2, gIx_t3, gIx_tz, gRev_l, gRev_t, zipD_ll, zipD_tl, zipD_lt, zipD_tt, int1_ok, int2_ok, gLen_l, gLen_t, gLen_d, gAbs_i, gAppend_l, gExtend_l, gInt_i, gTuple_l, gTuple_t, gList_l, gList_t, gMax_ii, gMin_ii, gSum_l, gIs_none, isLst, isT, isOw, List.getElem?_cons_zero, List.getElem?_cons_succ, List.length_cons, List.length_nil, List.cons_append, List.nil_append, List.replicate, List.set_cons_zero, List.set_cons_succ, true_and, and_true, if_true, List.map_cons, List.map_nil, Nat.reduceAdd, Nat.reduceSub, Nat.reduceLT, Nat.reduceLeDiff, List.length_set, List.length_map, List.length_append, List.length_range, reduceIte, reduceDIte, Bool.false_eq_true, slotOf, wb, Option.getD_some, nmOk, heldR, List.all_cons, List.all_nil, List.any_cons, List.any_nil, isNm, Bool.and_true, Bool.true_and, Bool.false_and, Bool.and_false, Bool.not_false, Bool.not_true, Bool.or_false, e3, e4, encP]
  · rw [show ((fr one other).map fun f => encP (f, ra one f + ra other f)) = (both0 (fr one other) one other).map encP by unfold both0; rw [List.map_map]; rfl]
    simp (disch := first | omega | (simp only [List.length_map, List.length_append, List.length_cons, List.length_nil, List.length_set, List.length_range, sizeLine_eq]; done) | (simp only [List.length_map, List.length_append, List.length_cons, List.length_nil, List.length_set, List.length_range, sizeLine_eq]; omega)) only [↓wM_bd, ↓wM_pr, ↓wM_opt, ↓wM_C, ↓wM_var, ↓wM_look_fz, ↓wM_look_ow, ↓wM_look_nm, ↓wM_frz_fz, ↓wM_frz_ow, ↓wM_frz_nm, ↓wM_op2, ↓wM_op2T, ↓wO_gB, ↓wM_op1, ↓wM_nil, ↓wM_cons, ↓wM_frzA0, ↓wM_frzA, ↓wM_lookA0, ↓wM_lookA, ↓wM_tup, ↓wM_lst, ↓wM_B, ↓wM_isi, ↓wM_me, ↓wM_sl, ↓wM_noP, ↓wM_part, ↓wM_key, ↓wM_call, ↓wM_argSA0, ↓wM_argSA, ↓wM_argS_fz, ↓wM_argS_ow, ↓wM_argS_nm, ↓wM_mut, ↓wM_yes, ↓wM_rng1, ↓wM_rng2, ↓wM_wkV, ↓wM_wkT, ↓wM_wkL, ↓wM_wk2, ↓wM_wkB, ↓wM_wkC, ↓wM_wkS, ↓wM_wk1, ↓wM_wkLc, ↓wM_wkIf, ↓wM_wkLR, ↓wM_rng3, ↓wM_zip, ↓wM_rga1, ↓wM_rga2, ↓wM_lrg, ↓wM_trg, ↓wM_not, ↓wM_tru, ↓wM_and, ↓wM_or, ↓wM_andV, ↓wM_orV, ↓wM_notV, ↓wM_ifE, ↓wM_chain, ↓wM_chainT, ↓wM_dispN, ↓wM_pairs0, ↓wM_pairs, ↓wM_new, ↓wO_gsC, ↓wS_seq, ↓wS_pass, ↓wS_brk, ↓wS_cnt, ↓wS_ret, ↓wS_drop, ↓wS_if, ↓wS_set, ↓wS_asg, ↓wS_par, ↓wS_put, ↓wS_augS, ↓wS_aug, ↓wM_run', wO_some, varK_fz, varK_ow, varK_lk, lookK_fz, lookK_ow, lookK_lk, frzK_fz, frzK_ow, frzK_lk, argK_fz, argK_owt, argK_owf, argK_lkt, argK_lkf, mutK_ow', mutO_ow, putK'_ow, getK_ow, fzO_fz, augK_fz, intD_int, retK_fz, retK_ow, retK_nm, retO_fz, retO_ow, retO_lk, setR_fz, setR_ow, setR_nm, setK_fz, setK_ow, setK_lk, tru_b, tru_n, tru_l, tru_t, key_i, key_s, gIAdd_ii, gISub_ii, gPow_18, gN_ok, gsN_ok, gT_ok, setQs_nil, setQs_fz, setQs_ow, outP_t, outP_f, outP_n, wkO_fz, wkO_ow, wkO_lk, wk_fz, wk_ow, wk_nm, items_l, items_t, unl_none, unl_some, unlK_lk, callK_R, callR_fz, callR_ow, rest_nil, rest_cons, restK_some, wipe_nil, wipe_cons, gAdd_ii, gSub_ii, gMul_l, gMul_r, gDiv_ii, gMod_ii, gNeg_i, gEq_ii, gEq_ss, gEq_bb, gNe_ii, gNe_ss, gLt_ii, gLe_ii, gGt_ii, gGe_ii, gIx_l0, gIx_t0, gIx_l1, gIx_t1, gIx_l2, gIx_t2, gIx_t3, gIx_tz, gRev_l, gRev_t, zipD_ll, zipD_tl, zipD_lt, zipD_tt, int1_ok, int2_ok, gLen_l, gLen_t, gLen_d, gAbs_i, gAppend_l, gExtend_l, gInt_i, gTuple_l, gTuple_t, gList_l, gList_t, gMax_ii, gMin_ii, gSum_l, gIs_none, isLst, isT, isOw, List.getElem?_cons_zero, List.getElem?_cons_succ, List.length_cons, List.length_nil, List.cons_append, List.nil_append, List.replicate, List.set_cons_zero, List.set_cons_succ, true_and, and_true, if_true, List.map_cons, List.map_nil, Nat.reduceAdd, Nat.reduceSub, Nat.reduceLT, Nat.reduceLeDiff, List.length_set, List.length_map, List.length_append, List.length_range, reduceIte, reduceDIte, Bool.false_eq_true, slotOf, wb, Option.getD_some, nmOk, heldR, List.all_cons, List.all_nil, List.any_cons, List.any_nil, isNm, Bool.and_true, Bool.true_and, Bool.false_and, Bool.and_false, Bool.not_false, Bool.not_true, Bool.or_false, e2]
    rfl
def shf (tb : List P2) (by_ : Int) : List P2 := tb.take 1 ++ (tb.drop 1).map fun t => (t.1 + by_, t.2)
theorem shifted_ok (tb : List P2) (b : Int) (h : Tb tb) : f_shifted [.fz (.tuple (tb.map encP)), .fz (.int b)] = .ok (.fz (.tuple ((shf tb b).map encP))) [.fz (.tuple (tb.map encP)), .fz (.int b)] := by
  have hl := h.len
  obtain ⟨x, r, rfl⟩ := List.exists_cons_of_ne_nil h.ne
  unfold f_shifted
  apply run_eq
  unfold b_shifted
  have hr : r.length ≤ 20 := by simp at hl; omega
  simp (disch := first | omega | (simp only [List.length_map, List.length_append, List.length_cons, List.length_nil, List.length_set, List.length_range, sizeLine_eq]; done) | (simp only [List.length_map, List.length_append, List.length_cons, List.length_nil, List.length_set, List.length_range, sizeLine_eq]; omega)) only [↓wM_bd, ↓wM_pr, ↓wM_opt, ↓wM_C, ↓wM_var, ↓wM_look_fz, ↓wM_look_ow, ↓wM_look_nm, ↓wM_frz_fz, ↓wM_frz_ow, ↓wM_frz_nm, ↓wM_op2, ↓wM_op2T, ↓wO_gB, ↓wM_op1, ↓wM_nil, ↓wM_cons, ↓wM_frzA0, ↓wM_frzA, ↓wM_lookA0, ↓wM_lookA, ↓wM_tup, ↓wM_lst, ↓wM_B, ↓wM_isi, ↓wM_me, ↓wM_sl, ↓wM_noP, ↓wM_part, ↓wM_key, ↓wM_call, ↓wM_argSA0, ↓wM_argSA, ↓wM_argS_fz, ↓wM_argS_ow, ↓wM_argS_nm, ↓wM_mut, ↓wM_yes, ↓wM_rng1, ↓wM_rng2, ↓wM_wkV, ↓wM_wkT, ↓wM_wkL, ↓wM_wk2, ↓wM_wkB, ↓wM_wkC, ↓wM_wkS, ↓wM_wk1, ↓wM_wkLc, ↓wM_wkIf, ↓wM_wkLR, ↓wM_rng3, ↓wM_zip, ↓wM_rga1, ↓wM_rga2, ↓wM_lrg, ↓wM_trg, ↓wM_not, ↓wM_tru, ↓wM_and, ↓wM_or, ↓wM_andV, ↓wM_orV, ↓wM_notV, ↓wM_ifE, ↓wM_chain, ↓wM_chainT, ↓wM_dispN, ↓wM_pairs0, ↓wM_pairs, ↓wM_new, ↓wO_gsC, ↓wS_seq, ↓wS_pass, ↓wS_brk, ↓wS_cnt, ↓wS_ret, ↓wS_drop, ↓wS_if, ↓wS_set, ↓wS_asg, ↓wS_par, ↓wS_put, ↓wS_augS, ↓wS_aug, ↓wM_run', wO_some, varK_fz, varK_ow, varK_lk, lookK_fz, lookK_ow, lookK_lk, frzK_fz, frzK_ow, frzK_lk, argK_fz, argK_owt, argK_owf, argK_lkt, argK_lkf, mutK_ow', mutO_ow, putK'_ow, getK_ow, fzO_fz, augK_fz, intD_int, retK_fz, retK_ow, retK_nm, retO_fz, retO_ow, retO_lk, setR_fz, setR_ow, setR_nm, setK_fz, setK_ow, setK_lk, tru_b, tru_n, tru_l, tru_t, key_i, key_s, gIAdd_ii, gISub_ii, gPow_18, gN_ok, gsN_ok, gT_ok, setQs_nil, setQs_fz, setQs_ow, outP_t, outP_f, outP_n, wkO_fz, wkO_ow, wkO_lk, wk_fz, wk_ow, wk_nm, items_l, items_t, unl_none, unl_some, unlK_lk, callK_R, callR_fz, callR_ow, rest_nil, rest_cons, restK_some, wipe_nil, wipe_cons, gAdd_ii, gSub_ii, gMul_l, gMul_r, gDiv_ii, gMod_ii, gNeg_i, gEq_ii, gEq_ss, gEq_bb, gNe_ii, gNe_ss, gLt_ii, gLe_ii, gGt_ii, gGe_ii, gIx_l0, gIx_t0, gIx_l1, gIx_t1, gIx_l2, gIx_t2, gIx_t3, gIx_tz, gRev_l, gRev_t, zipD_ll, zipD_tl, zipD_lt, zipD_tt, int1_ok, int2_ok, gLen_l, gLen_t, gLen_d, gAbs_i, gAppend_l, gExtend_l, gInt_i, gTuple_l, gTuple_t, gList_l, gList_t, gMax_ii, gMin_ii, gSum_l, gIs_none, isLst, isT, isOw, List.getElem?_cons_zero, List.getElem?_cons_succ, List.length_cons, List.length_nil, List.cons_append, List.nil_append, List.replicate, List.set_cons_zero, List.set_cons_succ, true_and, and_true, if_true, List.map_cons, List.map_nil, Nat.reduceAdd, Nat.reduceSub, Nat.reduceLT, Nat.reduceLeDiff, List.length_set, List.length_map, List.length_append, List.length_range, reduceIte, reduceDIte, Bool.false_eq_true, slotOf, wb, Option.getD_some, nmOk, heldR, List.all_cons, List.all_nil, List.any_cons, List.any_nil, isNm, Bool.and_true, Bool.true_and, Bool.false_and, Bool.and_false, Bool.not_false, Bool.not_true, Bool.or_false]
  refine wM_lcY (enc := encP) (xs := r) (l := none) (by
      simp (disch := first | omega | (simp only [List.length_map, List.length_append, List.length_cons, List.length_nil, List.length_set, List.length_range, sizeLine_eq]; done) | (simp only [List.length_map, List.length_append, List.length_cons, List.length_nil, List.length_set, List.length_range, sizeLine_eq]; omega)) only [↓wM_bd, ↓wM_pr, ↓wM_opt, ↓wM_C, ↓wM_var, ↓wM_look_fz, ↓wM_look_ow, ↓wM_look_nm, ↓wM_frz_fz, ↓wM_frz_ow, ↓wM_frz_nm, ↓wM_op2, ↓wM_op2T, ↓wO_gB, ↓wM_op1, ↓wM_nil, ↓wM_cons, ↓wM_frzA0, ↓wM_frzA, ↓wM_lookA0, ↓wM_lookA, ↓wM_tup, ↓wM_lst, ↓wM_B, ↓wM_isi, ↓wM_me, ↓wM_sl, ↓wM_noP, ↓wM_part, ↓wM_key, ↓wM_call, ↓wM_argSA0, ↓wM_argSA, ↓wM_argS_fz, ↓wM_argS_ow, ↓wM_argS_nm, ↓wM_mut, ↓wM_yes, ↓wM_rng1, ↓wM_rng2, ↓wM_wkV, ↓wM_wkT, ↓wM_wkL, ↓wM_wk2, ↓wM_wkB, ↓wM_wkC, ↓wM_wkS, ↓wM_wk1, ↓wM_wkLc, ↓wM_wkIf, ↓wM_wkLR, ↓wM_rng3, ↓wM_zip, ↓wM_rga1, ↓wM_rga2, ↓wM_lrg, ↓wM_trg, ↓wM_not, ↓wM_tru, ↓wM_and, ↓wM_or, ↓wM_andV, ↓wM_orV, ↓wM_notV, ↓wM_ifE, ↓wM_chain, ↓wM_chainT, ↓wM_dispN, ↓wM_pairs0, ↓wM_pairs, ↓wM_new, ↓wO_gsC, ↓wS_seq, ↓wS_pass, ↓wS_brk, ↓wS_cnt, ↓wS_ret, ↓wS_drop, ↓wS_if, ↓wS_set, ↓wS_asg, ↓wS_par, ↓wS_put, ↓wS_augS, ↓wS_aug, ↓wM_run', wO_some, varK_fz, varK_ow, varK_lk, lookK_fz, lookK_ow, lookK_lk, frzK_fz, frzK_ow, frzK_lk, argK_fz, argK_owt, argK_owf, argK_lkt, argK_lkf, mutK_ow', mutO_ow, putK'_ow, getK_ow, fzO_fz, augK_fz, intD_int, retK_fz, retK_ow, retK_nm, retO_fz, retO_ow, retO_lk, setR_fz, setR_ow, setR_nm, setK_fz, setK_ow, setK_lk, tru_b, tru_n, tru_l, tru_t, key_i, key_s, gIAdd_ii, gISub_ii, gPow_18, gN_ok, gsN_ok, gT_ok, setQs_nil, setQs_fz, setQs_ow, outP_t, outP_f, outP_n, wkO_fz, wkO_ow, wkO_lk, wk_fz, wk_ow, wk_nm, items_l, items_t, unl_none, unl_some, unlK_lk, callK_R, callR_fz, callR_ow, rest_nil, rest_cons, restK_some, wipe_nil, wipe_cons, gAdd_ii, gSub_ii, gMul_l, gMul_r, gDiv_ii, gMod_ii, gNeg_i, gEq_ii, gEq_ss, gEq_bb, gNe_ii, gNe_ss, gLt_ii, gLe_ii, gGt_ii, gGe_ii, gIx_l0, gIx_t0, gIx_l1, gIx_t1, gIx_l2, gIx_t2, gIx_t3, gIx_tz, gRev_l, gRev_t, zipD_ll, zipD_tl, zipD_lt, zipD_tt, int1_ok, int2_ok, gLen_l, gLen_t, gLen_d, gAbs_i, gAppend_l, gExtend_l, gInt_i, gTuple_l, gTuple_t, gList_l, gList_t, gMax_ii, gMin_ii, gSum_l, gIs_none, isLst, isT, isOw, List.getElem?_cons_zero, List.getElem?_cons_succ, List.length_cons, List.length_nil, List.cons_append, List.nil_append, List.replicate, List.set_cons_zero, List.set_cons_succ, true_and, and_true, if_true, List.map_cons, List.map_nil, Nat.reduceAdd, Nat.reduceSub, Nat.reduceLT, Nat.reduceLeDiff, List.length_set, List.length_map, List.length_append, List.length_range, reduceIte, reduceDIte, Bool.false_eq_true, slotOf, wb, Option.getD_some, nmOk, heldR, List.all_cons, List.all_nil, List.any_cons, List.any_nil, isNm, Bool.and_true, Bool.true_and, Bool.false_and, Bool.and_false, Bool.not_false, Bool.not_true, Bool.or_false, gSl_t, cutD_d1, List.drop_one, List.tail_cons]
      all_goals first | exact ⟨rfl, rfl⟩ | rfl) (fun t => encP (t.1 + b, t.2)) (by rw [sizeLine_eq]; omega) (fun t ht => ?_) ?_
  · rw [show encP t = .tuple [.int t.1, .int t.2] from rfl]
    simp (disch := first | omega | (simp only [List.length_map, List.length_append, List.length_cons, List.length_nil, List.length_set, List.length_range, sizeLine_eq]; done) | (simp only [List.length_map, List.length_append, List.length_cons, List.length_nil, List.length_set, List.length_range, sizeLine_eq]; omega)) only [↓wM_bd, ↓wM_pr, ↓wM_opt, ↓wM_C, ↓wM_var, ↓wM_look_fz, ↓wM_look_ow, ↓wM_look_nm, ↓wM_frz_fz, ↓wM_frz_ow, ↓wM_frz_nm, ↓wM_op2, ↓wM_op2T, ↓wO_gB, ↓wM_op1, ↓wM_nil, ↓wM_cons, ↓wM_frzA0, ↓wM_frzA, ↓wM_lookA0, ↓wM_lookA, ↓wM_tup, ↓wM_lst, ↓wM_B, ↓wM_isi, ↓wM_me, ↓wM_sl, ↓wM_noP, ↓wM_part, ↓wM_key, ↓wM_call, ↓wM_argSA0, ↓wM_argSA, ↓wM_argS_fz, ↓wM_argS_ow, ↓wM_argS_nm, ↓wM_mut, ↓wM_yes, ↓wM_rng1, ↓wM_rng2, ↓wM_wkV, ↓wM_wkT, ↓wM_wkL, ↓wM_wk2, ↓wM_wkB, ↓wM_wkC, ↓wM_wkS, ↓wM_wk1, ↓wM_wkLc, ↓wM_wkIf, ↓wM_wkLR, ↓wM_rng3, ↓wM_zip, ↓wM_rga1, ↓wM_rga2, ↓wM_lrg, ↓wM_trg, ↓wM_not, ↓wM_tru, ↓wM_and, ↓wM_or, ↓wM_andV, ↓wM_orV, ↓wM_notV, ↓wM_ifE, ↓wM_chain, ↓wM_chainT, ↓wM_dispN, ↓wM_pairs0, ↓wM_pairs, ↓wM_new, ↓wO_gsC, ↓wS_seq, ↓wS_pass, ↓wS_brk, ↓wS_cnt, ↓wS_ret, ↓wS_drop, ↓wS_if, ↓wS_set, ↓wS_asg, ↓wS_par, ↓wS_put, ↓wS_augS, ↓wS_aug, ↓wM_run', wO_some, varK_fz, varK_ow, varK_lk, lookK_fz, lookK_ow, lookK_lk, frzK_fz, frzK_ow, frzK_lk, argK_fz, argK_owt, argK_owf, argK_lkt, argK_lkf, mutK_ow', mutO_ow, putK'_ow, getK_ow, fzO_fz, augK_fz, intD_int, retK_fz, retK_ow, retK_nm, retO_fz, retO_ow, retO_lk, setR_fz, setR_ow, setR_nm, setK_fz, setK_ow, setK_lk, tru_b, tru_n, tru_l, tru_t, key_i, key_s, gIAdd_ii, gISub_ii, gPow_18, gN_ok, gsN_ok, gT_ok, setQs_nil, setQs_fz, setQs_ow, outP_t, outP_f, outP_n, wkO_fz, wkO_ow, wkO_lk, wk_fz, wk_ow, wk_nm, items_l, items_t, unl_none, unl_some, unlK_lk, callK_R, callR_fz, callR_ow, rest_nil, rest_cons, restK_some, wipe_nil, wipe_cons, gAdd_ii, gSub_ii, gMul_l, gMul_r, gDiv_ii, gMod_ii, gNeg_i, gEq_ii, gEq_ss, gEq_bb, gNe_ii, gNe_ss, gLt_ii, gLe_ii, gGt_ii, gGe_ii, gIx_l0, gIx_t0, gIx_l1, gIx_t1, gIx_l2, gIx_t2, gIx_t3, gIx_tz, gRev_l, gRev_t, zipD_ll, zipD_tl, zipD_lt, zipD_tt, int1_ok, int2_ok, gLen_l, gLen_t, gLen_d, gAbs_i, gAppend_l, gExtend_l, gInt_i, gTuple_l, gTuple_t, gList_l, gList_t, gMax_ii, gMin_ii, gSum_l, gIs_none, isLst, isT, isOw, List.getElem?_cons_zero, List.getElem?_cons_succ, List.length_cons, List.length_nil, List.cons_append, List.nil_append, List.replicate, List.set_cons_zero, List.set_cons_succ, true_and, and_true, if_true, List.map_cons, List.map_nil, Nat.reduceAdd, Nat.reduceSub, Nat.reduceLT, Nat.reduceLeDiff, List.length_set, List.length_map, List.length_append, List.length_range, reduceIte, reduceDIte, Bool.false_eq_true, slotOf, wb, Option.getD_some, nmOk, heldR, List.all_cons, List.all_nil, List.any_cons, List.any_nil, isNm, Bool.and_true, Bool.true_and, Bool.false_and, Bool.and_false, Bool.not_false, Bool.not_true, Bool.or_false, encP]
  · simp (disch := first | omega | (simp only [List.length_map, List.length_append, List.length_cons, List.length_nil, List.length_set, List.length_range, sizeLine_eq]; done) | (simp only [List.length_map, List.length_append, List.length_cons, List.length_nil, List.length_set, List.length_range, sizeLine_eq]; omega)) only [↓wM_bd, ↓wM_pr, ↓wM_opt, ↓wM_C, ↓wM_var, ↓wM_look_fz, ↓wM_look_ow, ↓wM_look_nm, ↓wM_frz_fz, ↓wM_frz_ow, ↓wM_frz_nm, ↓wM_op2, ↓wM_op2T, ↓wO_gB, ↓wM_op1, ↓wM_nil, ↓wM_cons, ↓wM_frzA0, ↓wM_frzA, ↓wM_lookA0, ↓wM_lookA, ↓wM_tup, ↓wM_lst, ↓wM_B, ↓wM_isi, ↓wM_me, ↓wM_sl, ↓wM_noP, ↓wM_part, ↓wM_key, ↓wM_call, ↓wM_argSA0, ↓wM_argSA, ↓wM_argS_fz, ↓wM_argS_ow, ↓wM_argS_nm, ↓wM_mut, ↓wM_yes, ↓wM_rng1, ↓wM_rng2, ↓wM_wkV, ↓wM_wkT, ↓wM_wkL, ↓wM_wk2, ↓wM_wkB, ↓wM_wkC, ↓wM_wkS, ↓wM_wk1, ↓wM_wkLc, ↓wM_wkIf, ↓wM_wkLR, ↓wM_rng3, ↓wM_zip, ↓wM_rga1, ↓wM_rga2, ↓wM_lrg, ↓wM_trg, ↓wM_not, ↓wM_tru, ↓wM_and, ↓wM_or, ↓wM_andV, ↓wM_orV, ↓wM_notV, ↓wM_ifE, ↓wM_chain, ↓wM_chainT, ↓wM_dispN, ↓wM_pairs0, ↓wM_pairs, ↓wM_new, ↓wO_gsC, ↓wS_seq, ↓wS_pass, ↓wS_brk, ↓wS_cnt, ↓wS_ret, ↓wS_drop, ↓wS_if, ↓wS_set, ↓wS_asg, ↓wS_par, ↓wS_put, ↓wS_augS, ↓wS_aug, ↓wM_run', wO_some, varK_fz, varK_ow, varK_lk, lookK_fz, lookK_ow, lookK_lk, frzK_fz, frzK_ow, frzK_lk, argK_fz, argK_owt, argK_owf, argK_lkt, argK_lkf, mutK_ow', mutO_ow, putK'_ow, getK_ow, fzO_fz, augK_fz, intD_int, retK_fz, retK_ow, retK_nm, retO_fz, retO_ow, retO_lk, setR_fz, setR_ow, setR_nm, setK_fz, setK_ow, setK_lk, tru_b, tru_n, tru_l, tru_t, key_i, key_s, gIAdd_ii, gISub_ii, gPow_18, gN_ok, gsN_ok, gT_ok, setQs_nil, setQs_fz, setQs_ow, outP_t, outP_f, outP_n, wkO_fz, wkO_ow, wkO_lk, wk_fz, wk_ow, wk_nm, items_l, items_t, unl_none, unl_some, unlK_lk, callK_R, callR_fz, callR_ow, rest_nil, rest_cons, restK_some, wipe_nil, wipe_cons, gAdd_ii, gSub_ii, gMul_l, gMul_r, gDiv_ii, gMod_ii, gNeg_i, gEq_ii, gEq_ss, gEq_bb, gNe_ii, gNe_ss, gLt_ii, gLe_ii, gGt_ii, gGe_ii, gIx_l0, gIx_t0, gIx_l1, gIx_t1, gIx_l2, gIx_t2, gIx_t3, gIx_tz, gRev_l, gRev_t, zipD_ll, zipD_tl, zipD_lt, zipD_tt, int1_ok, int2_ok, gLen_l, gLen_t, gLen_d, gAbs_i, gAppend_l, gExtend_l, gInt_i, gTuple_l, gTuple_t, gList_l, gList_t, gMax_ii, gMin_ii, gSum_l, gIs_none, isLst, isT, isOw, List.getElem?_cons_zero, List.getElem?_cons_succ, List.length_cons, List.length_nil, List.cons_append, List.nil_append, List.replicate, List.set_cons_zero, List.set_cons_succ, true_and, and_true, if_true, List.map_cons, List.map_nil, Nat.reduceAdd, Nat.reduceSub, Nat.reduceLT, Nat.reduceLeDiff, List.length_set, List.length_map, List.length_append, List.length_range, reduceIte, reduceDIte, Bool.false_eq_true, slotOf, wb, Option.getD_some, nmOk, heldR, List.all_cons, List.all_nil, List.any_cons, List.any_nil, isNm, Bool.and_true, Bool.true_and, Bool.false_and, Bool.and_false, Bool.not_false, Bool.not_true, Bool.or_false, gAdd_ll]
    unfold shf
    simp
theorem next_eq : f__law_next = nextF := rfl
theorem draws_eq : f__law_draws = drawsF := rfl
theorem pick_eq : f__law_pick = pickF := rfl
theorem alike_eq : ∀ n, f__law_alike n = alikeF n
  | 0 => rfl
  | n + 1 => by unfold f__law_alike alikeF; rw [alike_eq n]; rfl
theorem ltable_ok (ds : List Int) (i : Nat) : ∃ (tb : List P2) (i' : Nat), (Tb tb ∧ tb.length ≤ 5 ∧ (∀ t ∈ tb, t.2 ≤ 99) ∧ ∀ t ∈ tb, t.1 ≤ 60) ∧ f__law_table [.ow (Wd ds i)] = .ok (.fz (.tuple (tb.map encP))) [.ow (Wd ds i')] := by
  suffices hh : wM f__law_table [.ow (Wd ds i)] fun r ρ' => ∃ (tb : List P2) (i' : Nat), (Tb tb ∧ tb.length ≤ 5 ∧ (∀ t ∈ tb, t.2 ≤ 99) ∧ ∀ t ∈ tb, t.1 ≤ 60) ∧ r = .fz (.tuple (tb.map encP)) ∧ ρ' = [.ow (Wd ds i')] by
    obtain ⟨r, ρ', e, tb, i', ht, e2, e3⟩ := wM_iff.mp hh
    subst e2; subst e3
    exact ⟨tb, i', ht, e⟩
  unfold f__law_table
  rw [wM_run']
  unfold b__law_table
  rw [next_eq, pick_eq]
  have b1 := nx_bd ds i 5 (by omega)
  simp (disch := first | omega | (simp only [List.length_map, List.length_append, List.length_cons, List.length_nil, List.length_set, List.length_range, sizeLine_eq]; done) | (simp only [List.length_map, List.length_append, List.length_cons, List.length_nil, List.length_set, List.length_range, sizeLine_eq]; omega)) only [↓wM_bd, ↓wM_pr, ↓wM_opt, ↓wM_C, ↓wM_var, ↓wM_look_fz, ↓wM_look_ow, ↓wM_look_nm, ↓wM_frz_fz, ↓wM_frz_ow, ↓wM_frz_nm, ↓wM_op2, ↓wM_op2T, ↓wO_gB, ↓wM_op1, ↓wM_nil, ↓wM_cons, ↓wM_frzA0, ↓wM_frzA, ↓wM_lookA0, ↓wM_lookA, ↓wM_tup, ↓wM_lst, ↓wM_B, ↓wM_isi, ↓wM_me, ↓wM_sl, ↓wM_noP, ↓wM_part, ↓wM_key, ↓wM_call, ↓wM_argSA0, ↓wM_argSA, ↓wM_argS_fz, ↓wM_argS_ow, ↓wM_argS_nm, ↓wM_mut, ↓wM_yes, ↓wM_rng1, ↓wM_rng2, ↓wM_wkV, ↓wM_wkT, ↓wM_wkL, ↓wM_wk2, ↓wM_wkB, ↓wM_wkC, ↓wM_wkS, ↓wM_wk1, ↓wM_wkLc, ↓wM_wkIf, ↓wM_wkLR, ↓wM_rng3, ↓wM_zip, ↓wM_rga1, ↓wM_rga2, ↓wM_lrg, ↓wM_trg, ↓wM_not, ↓wM_tru, ↓wM_and, ↓wM_or, ↓wM_andV, ↓wM_orV, ↓wM_notV, ↓wM_ifE, ↓wM_chain, ↓wM_chainT, ↓wM_dispN, ↓wM_pairs0, ↓wM_pairs, ↓wM_new, ↓wO_gsC, ↓wS_seq, ↓wS_pass, ↓wS_brk, ↓wS_cnt, ↓wS_ret, ↓wS_drop, ↓wS_if, ↓wS_set, ↓wS_asg, ↓wS_par, ↓wS_put, ↓wS_augS, ↓wS_aug, ↓wM_run', wO_some, varK_fz, varK_ow, varK_lk, lookK_fz, lookK_ow, lookK_lk, frzK_fz, frzK_ow, frzK_lk, argK_fz, argK_owt, argK_owf, argK_lkt, argK_lkf, mutK_ow', mutO_ow, putK'_ow, getK_ow, fzO_fz, augK_fz, intD_int, retK_fz, retK_ow, retK_nm, retO_fz, retO_ow, retO_lk, setR_fz, setR_ow, setR_nm, setK_fz, setK_ow, setK_lk, tru_b, tru_n, tru_l, tru_t, key_i, key_s, gIAdd_ii, gISub_ii, gPow_18, gN_ok, gsN_ok, gT_ok, setQs_nil, setQs_fz, setQs_ow, outP_t, outP_f, outP_n, wkO_fz, wkO_ow, wkO_lk, wk_fz, wk_ow, wk_nm, items_l, items_t, unl_none, unl_some, unlK_lk, callK_R, callR_fz, callR_ow, rest_nil, rest_cons, restK_some, wipe_nil, wipe_cons, gAdd_ii, gSub_ii, gMul_l, gMul_r, gDiv_ii, gMod_ii, gNeg_i, gEq_ii, gEq_ss, gEq_bb, gNe_ii, gNe_ss, gLt_ii, gLe_ii, gGt_ii, gGe_ii, gIx_l0, gIx_t0, gIx_l1, gIx_t1, gIx_l2, gIx_t2, gIx_t3, gIx_tz, gRev_l, gRev_t, zipD_ll, zipD_tl, zipD_lt, zipD_tt, int1_ok, int2_ok, gLen_l, gLen_t, gLen_d, gAbs_i, gAppend_l, gExtend_l, gInt_i, gTuple_l, gTuple_t, gList_l, gList_t, gMax_ii, gMin_ii, gSum_l, gIs_none, isLst, isT, isOw, List.getElem?_cons_zero, List.getElem?_cons_succ, List.length_cons, List.length_nil, List.cons_append, List.nil_append, List.replicate, List.set_cons_zero, List.set_cons_succ, true_and, and_true, if_true, List.map_cons, List.map_nil, Nat.reduceAdd, Nat.reduceSub, Nat.reduceLT, Nat.reduceLeDiff, List.length_set, List.length_map, List.length_append, List.length_range, reduceIte, reduceDIte, Bool.false_eq_true, slotOf, wb, Option.getD_some, nmOk, heldR, List.all_cons, List.all_nil, List.any_cons, List.any_nil, isNm, Bool.and_true, Bool.true_and, Bool.false_and, Bool.and_false, Bool.not_false, Bool.not_true, Bool.or_false]
  refine wS_forI (l := none) (by simp (disch := first | omega | (simp only [List.length_map, List.length_append, List.length_cons, List.length_nil, List.length_set, List.length_range, sizeLine_eq]; done) | (simp only [List.length_map, List.length_append, List.length_cons, List.length_nil, List.length_set, List.length_range, sizeLine_eq]; omega)) only [↓wM_bd, ↓wM_pr, ↓wM_opt, ↓wM_C, ↓wM_var, ↓wM_look_fz, ↓wM_look_ow, ↓wM_look_nm, ↓wM_frz_fz, ↓wM_frz_ow, ↓wM_frz_nm, ↓wM_op2, ↓wM_op2T, ↓wO_gB, ↓wM_op1, ↓wM_nil, ↓wM_cons, ↓wM_frzA0, ↓wM_frzA, ↓wM_lookA0, ↓wM_lookA, ↓wM_tup, ↓wM_lst, ↓wM_B, ↓wM_isi, ↓wM_me, ↓wM_sl, ↓wM_noP, ↓wM_part, ↓wM_key, ↓wM_call, ↓wM_argSA0, ↓wM_argSA, ↓wM_argS_fz, ↓wM_argS_ow, ↓wM_argS_nm, ↓wM_mut, ↓wM_yes, ↓wM_rng1, ↓wM_rng2, ↓wM_wkV, ↓wM_wkT, ↓wM_wkL, ↓wM_wk2, ↓wM_wkB, ↓wM_wkC, ↓wM_wkS, ↓wM_wk1, ↓wM_wkLc, ↓wM_wkIf, ↓wM_wkLR, ↓wM_rng3, ↓wM_zip, ↓wM_rga1, ↓wM_rga2, ↓wM_lrg, ↓wM_trg, ↓wM_not, ↓wM_tru, ↓wM_and, ↓wM_or, ↓wM_andV, ↓wM_orV, ↓wM_notV, ↓wM_ifE, ↓wM_chain, ↓wM_chainT, ↓wM_dispN, ↓wM_pairs0, ↓wM_pairs, ↓wM_new, ↓wO_gsC, ↓wS_seq, ↓wS_pass, ↓wS_brk, ↓wS_cnt, ↓wS_ret, ↓wS_drop, ↓wS_if, ↓wS_set, ↓wS_asg, ↓wS_par, ↓wS_put, ↓wS_augS, ↓wS_aug, ↓wM_run', wO_some, varK_fz, varK_ow, varK_lk, lookK_fz, lookK_ow, lookK_lk, frzK_fz, frzK_ow, frzK_lk, argK_fz, argK_owt, argK_owf, argK_lkt, argK_lkf, mutK_ow', mutO_ow, putK'_ow, getK_ow, fzO_fz, augK_fz, intD_int, retK_fz, retK_ow, retK_nm, retO_fz, retO_ow, retO_lk, setR_fz, setR_ow, setR_nm, setK_fz, setK_ow, setK_lk, tru_b, tru_n, tru_l, tru_t, key_i, key_s, gIAdd_ii, gISub_ii, gPow_18, gN_ok, gsN_ok, gT_ok, setQs_nil, setQs_fz, setQs_ow, outP_t, outP_f, outP_n, wkO_fz, wkO_ow, wkO_lk, wk_fz, wk_ow, wk_nm, items_l, items_t, unl_none, unl_some, unlK_lk, callK_R, callR_fz, callR_ow, rest_nil, rest_cons, restK_some, wipe_nil, wipe_cons, gAdd_ii, gSub_ii, gMul_l, gMul_r, gDiv_ii, gMod_ii, gNeg_i, gEq_ii, gEq_ss, gEq_bb, gNe_ii, gNe_ss, gLt_ii, gLe_ii, gGt_ii, gGe_ii, gIx_l0, gIx_t0, gIx_l1, gIx_t1, gIx_l2, gIx_t2, gIx_t3, gIx_tz, gRev_l, gRev_t, zipD_ll, zipD_tl, zipD_lt, zipD_tt, int1_ok, int2_ok, gLen_l, gLen_t, gLen_d, gAbs_i, gAppend_l, gExtend_l, gInt_i, gTuple_l, gTuple_t, gList_l, gList_t, gMax_ii, gMin_ii, gSum_l, gIs_none, isLst, isT, isOw, List.getElem?_cons_zero, List.getElem?_cons_succ, List.length_cons, List.length_nil, List.cons_append, List.nil_append, List.replicate, List.set_cons_zero, List.set_cons_succ, true_and, and_true, if_true, List.map_cons, List.map_nil, Nat.reduceAdd, Nat.reduceSub, Nat.reduceLT, Nat.reduceLeDiff, List.length_set, List.length_map, List.length_append, List.length_range, reduceIte, reduceDIte, Bool.false_eq_true, slotOf, wb, Option.getD_some, nmOk, heldR, List.all_cons, List.all_nil, List.any_cons, List.any_nil, isNm, Bool.and_true, Bool.true_and, Bool.false_and, Bool.and_false, Bool.not_false, Bool.not_true, Bool.or_false, rng1_ok, next_ok'] <;> exact ⟨rfl, rfl⟩) (fun k ρ => ∃ (i : Nat) (fo : List P2) (beg : Int) (s3 : Sl), fo.length = k ∧ (∀ t ∈ fo, t.1 < beg) ∧ (fo.Pairwise fun a b => a.1 < b.1) ∧ (∀ t ∈ fo, 0 ≤ t.2 ∧ t.2 ≤ 99) ∧ (∀ t, fo.head? = some t → t.1 = 0) ∧ (fo = [] → beg = 0) ∧ 0 ≤ beg ∧ beg ≤ 12 * (k : Int) ∧ ρ = [.ow (Wd ds i), .ow (.list (fo.map encP)), .fz (.int beg), s3]) ⟨i + 1, [], 0, _, rfl, by simp, by simp, by simp, by simp, by simp, by omega, by omega, rfl⟩ ?_ ?_
  · rintro k d ρ hd ⟨i1, fo, beg, s3, hk, h1, h2, h3, h4, h5, h6, h7, rfl⟩
    obtain ⟨hk5, rfl⟩ := at_rng hd
    have c1 := nx_bd ds i1 100 (by omega)
    have c2 := nx_bd ds (i1 + 1 + 1) 12 (by omega)
    generalize hq1 : nx ds i1 100 = q1 at c1
    generalize hq2 : nx ds (i1 + 1 + 1) 12 = q2 at c2
    obtain ⟨r, hr, hp⟩ := pk_map (enc := PyData.int) (ds := ds) (i := i1 + 1) (xs := [0, 10, 10, 20, 45, 99, q1]) (by simp)
    have hp : pk ds (i1 + 1) [.int 0, .int 10, .int 10, .int 20, .int 45, .int 99, .int q1] = .int r := hp
    have hr : 0 ≤ r ∧ r ≤ 99 := by simp at hr; omega
    simp (disch := first | omega | (simp only [List.length_map, List.length_append, List.length_cons, List.length_nil, List.length_set, List.length_range, sizeLine_eq]; done) | (simp only [List.length_map, List.length_append, List.length_cons, List.length_nil, List.length_set, List.length_range, sizeLine_eq]; omega)) only [↓wM_bd, ↓wM_pr, ↓wM_opt, ↓wM_C, ↓wM_var, ↓wM_look_fz, ↓wM_look_ow, ↓wM_look_nm, ↓wM_frz_fz, ↓wM_frz_ow, ↓wM_frz_nm, ↓wM_op2, ↓wM_op2T, ↓wO_gB, ↓wM_op1, ↓wM_nil, ↓wM_cons, ↓wM_frzA0, ↓wM_frzA, ↓wM_lookA0, ↓wM_lookA, ↓wM_tup, ↓wM_lst, ↓wM_B, ↓wM_isi, ↓wM_me, ↓wM_sl, ↓wM_noP, ↓wM_part, ↓wM_key, ↓wM_call, ↓wM_argSA0, ↓wM_argSA, ↓wM_argS_fz, ↓wM_argS_ow, ↓wM_argS_nm, ↓wM_mut, ↓wM_yes, ↓wM_rng1, ↓wM_rng2, ↓wM_wkV, ↓wM_wkT, ↓wM_wkL, ↓wM_wk2, ↓wM_wkB, ↓wM_wkC, ↓wM_wkS, ↓wM_wk1, ↓wM_wkLc, ↓wM_wkIf, ↓wM_wkLR, ↓wM_rng3, ↓wM_zip, ↓wM_rga1, ↓wM_rga2, ↓wM_lrg, ↓wM_trg, ↓wM_not, ↓wM_tru, ↓wM_and, ↓wM_or, ↓wM_andV, ↓wM_orV, ↓wM_notV, ↓wM_ifE, ↓wM_chain, ↓wM_chainT, ↓wM_dispN, ↓wM_pairs0, ↓wM_pairs, ↓wM_new, ↓wO_gsC, ↓wS_seq, ↓wS_pass, ↓wS_brk, ↓wS_cnt, ↓wS_ret, ↓wS_drop, ↓wS_if, ↓wS_set, ↓wS_asg, ↓wS_par, ↓wS_put, ↓wS_augS, ↓wS_aug, ↓wM_run', wO_some, varK_fz, varK_ow, varK_lk, lookK_fz, lookK_ow, lookK_lk, frzK_fz, frzK_ow, frzK_lk, argK_fz, argK_owt, argK_owf, argK_lkt, argK_lkf, mutK_ow', mutO_ow, putK'_ow, getK_ow, fzO_fz, augK_fz, intD_int, retK_fz, retK_ow, retK_nm, retO_fz, retO_ow, retO_lk, setR_fz, setR_ow, setR_nm, setK_fz, setK_ow, setK_lk, tru_b, tru_n, tru_l, tru_t, key_i, key_s, gIAdd_ii, gISub_ii, gPow_18, gN_ok, gsN_ok, gT_ok, setQs_nil, setQs_fz, setQs_ow, outP_t, outP_f, outP_n, wkO_fz, wkO_ow, wkO_lk, wk_fz, wk_ow, wk_nm, items_l, items_t, unl_none, unl_some, unlK_lk, callK_R, callR_fz, callR_ow, rest_nil, rest_cons, restK_some, wipe_nil, wipe_cons, gAdd_ii, gSub_ii, gMul_l, gMul_r, gDiv_ii, gMod_ii, gNeg_i, gEq_ii, gEq_ss, gEq_bb, gNe_ii, gNe_ss, gLt_ii, gLe_ii, gGt_ii, gGe_ii, gIx_l0, gIx_t0, gIx_l1, gIx_t1, gIx_l2, gIx_t2, gIx_t3, gIx_tz, gRev_l, gRev_t, zipD_ll, zipD_tl, zipD_lt, zipD_tt, int1_ok, int2_ok, gLen_l, gLen_t, gLen_d, gAbs_i, gAppend_l, gExtend_l, gInt_i, gTuple_l, gTuple_t, gList_l, gList_t, gMax_ii, gMin_ii, gSum_l, gIs_none, isLst, isT, isOw, List.getElem?_cons_zero, List.getElem?_cons_succ, List.length_cons, List.length_nil, List.cons_append, List.nil_append, List.replicate, List.set_cons_zero, List.set_cons_succ, true_and, and_true, if_true, List.map_cons, List.map_nil, Nat.reduceAdd, Nat.reduceSub, Nat.reduceLT, Nat.reduceLeDiff, List.length_set, List.length_map, List.length_append, List.length_range, reduceIte, reduceDIte, Bool.false_eq_true, slotOf, wb, Option.getD_some, nmOk, heldR, List.all_cons, List.all_nil, List.any_cons, List.any_nil, isNm, Bool.and_true, Bool.true_and, Bool.false_and, Bool.and_false, Bool.not_false, Bool.not_true, Bool.or_false, next_ok', hq1, hq2, pick_o, hp]
    refine ⟨_, fo ++ [(beg, r)], beg + (1 + q2), _, by simp [hk], fun t ht => ?_, ?_, fun t ht => ?_, fun t ht => ?_, by simp, by omega, by omega, by rw [List.map_append]; rfl⟩
    · rcases List.mem_append.mp ht with z | z
      · have := h1 t z; omega
      · simp at z; subst z; simp only; omega
    · rw [List.pairwise_append]
      exact ⟨h2, by simp, fun x hx y hy => by simp at hy; subst hy; exact h1 x hx⟩
    · rcases List.mem_append.mp ht with z | z
      · exact h3 t z
      · simp at z; subst z; exact hr
    · cases fo with
      | nil => simp at ht; subst ht; exact h5 rfl
      | cons y ys => simp at ht; exact h4 t (by simp [ht])
  · rintro ρ ⟨i1, fo, beg, s3, hk, h1, h2, h3, h4, h5, h6, h7, rfl⟩
    rw [List.length_map, List.length_range] at hk h7
    simp (disch := first | omega | (simp only [List.length_map, List.length_append, List.length_cons, List.length_nil, List.length_set, List.length_range, sizeLine_eq]; done) | (simp only [List.length_map, List.length_append, List.length_cons, List.length_nil, List.length_set, List.length_range, sizeLine_eq]; omega)) only [↓wM_bd, ↓wM_pr, ↓wM_opt, ↓wM_C, ↓wM_var, ↓wM_look_fz, ↓wM_look_ow, ↓wM_look_nm, ↓wM_frz_fz, ↓wM_frz_ow, ↓wM_frz_nm, ↓wM_op2, ↓wM_op2T, ↓wO_gB, ↓wM_op1, ↓wM_nil, ↓wM_cons, ↓wM_frzA0, ↓wM_frzA, ↓wM_lookA0, ↓wM_lookA, ↓wM_tup, ↓wM_lst, ↓wM_B, ↓wM_isi, ↓wM_me, ↓wM_sl, ↓wM_noP, ↓wM_part, ↓wM_key, ↓wM_call, ↓wM_argSA0, ↓wM_argSA, ↓wM_argS_fz, ↓wM_argS_ow, ↓wM_argS_nm, ↓wM_mut, ↓wM_yes, ↓wM_rng1, ↓wM_rng2, ↓wM_wkV, ↓wM_wkT, ↓wM_wkL, ↓wM_wk2, ↓wM_wkB, ↓wM_wkC, ↓wM_wkS, ↓wM_wk1, ↓wM_wkLc, ↓wM_wkIf, ↓wM_wkLR, ↓wM_rng3, ↓wM_zip, ↓wM_rga1, ↓wM_rga2, ↓wM_lrg, ↓wM_trg, ↓wM_not, ↓wM_tru, ↓wM_and, ↓wM_or, ↓wM_andV, ↓wM_orV, ↓wM_notV, ↓wM_ifE, ↓wM_chain, ↓wM_chainT, ↓wM_dispN, ↓wM_pairs0, ↓wM_pairs, ↓wM_new, ↓wO_gsC, ↓wS_seq, ↓wS_pass, ↓wS_brk, ↓wS_cnt, ↓wS_ret, ↓wS_drop, ↓wS_if, ↓wS_set, ↓wS_asg, ↓wS_par, ↓wS_put, ↓wS_augS, ↓wS_aug, ↓wM_run', wO_some, varK_fz, varK_ow, varK_lk, lookK_fz, lookK_ow, lookK_lk, frzK_fz, frzK_ow, frzK_lk, argK_fz, argK_owt, argK_owf, argK_lkt, argK_lkf, mutK_ow', mutO_ow, putK'_ow, getK_ow, fzO_fz, augK_fz, intD_int, retK_fz, retK_ow, retK_nm, retO_fz, retO_ow, retO_lk, setR_fz, setR_ow, setR_nm, setK_fz, setK_ow, setK_lk, tru_b, tru_n, tru_l, tru_t, key_i, key_s, gIAdd_ii, gISub_ii, gPow_18, gN_ok, gsN_ok, gT_ok, setQs_nil, setQs_fz, setQs_ow, outP_t, outP_f, outP_n, wkO_fz, wkO_ow, wkO_lk, wk_fz, wk_ow, wk_nm, items_l, items_t, unl_none, unl_some, unlK_lk, callK_R, callR_fz, callR_ow, rest_nil, rest_cons, restK_some, wipe_nil, wipe_cons, gAdd_ii, gSub_ii, gMul_l, gMul_r, gDiv_ii, gMod_ii, gNeg_i, gEq_ii, gEq_ss, gEq_bb, gNe_ii, gNe_ss, gLt_ii, gLe_ii, gGt_ii, gGe_ii, gIx_l0, gIx_t0, gIx_l1, gIx_t1, gIx_l2, gIx_t2, gIx_t3, gIx_tz, gRev_l, gRev_t, zipD_ll, zipD_tl, zipD_lt, zipD_tt, int1_ok, int2_ok, gLen_l, gLen_t, gLen_d, gAbs_i, gAppend_l, gExtend_l, gInt_i, gTuple_l, gTuple_t, gList_l, gList_t, gMax_ii, gMin_ii, gSum_l, gIs_none, isLst, isT, isOw, List.getElem?_cons_zero, List.getElem?_cons_succ, List.length_cons, List.length_nil, List.cons_append, List.nil_append, List.replicate, List.set_cons_zero, List.set_cons_succ, true_and, and_true, if_true, List.map_cons, List.map_nil, Nat.reduceAdd, Nat.reduceSub, Nat.reduceLT, Nat.reduceLeDiff, List.length_set, List.length_map, List.length_append, List.length_range, reduceIte, reduceDIte, Bool.false_eq_true, slotOf, wb, Option.getD_some, nmOk, heldR, List.all_cons, List.all_nil, List.any_cons, List.any_nil, isNm, Bool.and_true, Bool.true_and, Bool.false_and, Bool.and_false, Bool.not_false, Bool.not_true, Bool.or_false]
    exact ⟨fo, i1, ⟨⟨fun z => by rw [z] at hk; simp at hk; omega, h4, h2, fun t ht => by have := h3 t ht; omega, fun t ht => by have := h1 t ht; omega, by omega⟩, by omega, fun t ht => (h3 t ht).2, fun t ht => by have := h1 t ht; omega⟩, by rfl, by rfl⟩
/-- a table of the law -/
structure Tl (tb : List P2) : Prop where
  ok : Tb tb
  len : tb.length ≤ 8
  ra : ∀ t ∈ tb, t.2 ≤ 99
  le : ∀ t ∈ tb, t.1 ≤ 61
def V1 (one : List P2) (k : Nat) (x : P2) : List P2 := one.take (k + 1) ++ [(x.1 + 1, x.2)] ++ (one.drop (k + 1)).map fun t => (t.1 + 1, t.2)
def V2 (one : List P2) (k : Nat) (x : P2) : List P2 := one.take k ++ [(x.1, (x.2 + 1) / 2)] ++ one.drop (k + 1)
theorem split_at {one : List P2} {k : Nat} {x : P2} (h : one[k]? = some x) : ∃ pre post, one = pre ++ x :: post ∧ pre.length = k ∧ one.take k = pre ∧ one.take (k + 1) = pre ++ [x] ∧ one.drop (k + 1) = post := by
  obtain ⟨hk, e⟩ := List.getElem?_eq_some_iff.mp h
  refine ⟨one.take k, one.drop (k + 1), ?_, by rw [List.length_take]; omega, rfl, by rw [List.take_succ_eq_append_getElem hk, e], rfl⟩
  rw [← e, ← List.drop_eq_getElem_cons hk, List.take_append_drop]
theorem V1_Tl {one : List P2} (h : Tb one) (hl : one.length ≤ 5) (hr : ∀ t ∈ one, t.2 ≤ 99) (hb : ∀ t ∈ one, t.1 ≤ 60) {k : Nat} {x : P2} (hx : one[k]? = some x) : Tl (V1 one k x) := by
  obtain ⟨pre, post, e, _, _, e3, e4⟩ := split_at hx
  unfold V1
  rw [e3, e4]
  have hu := h.up
  rw [e] at hu hl hr hb
  have hra := h.ra
  rw [e] at hra
  have hd := h.hd
  rw [e] at hd
  obtain ⟨u1, u2, u3⟩ := List.pairwise_append.mp hu
  obtain ⟨u4, u5⟩ := List.pairwise_cons.mp u2
  have key : (pre ++ [x] ++ [((x.1 + 1, x.2) : P2)] ++ post.map fun t : P2 => ((t.1 + 1, t.2) : P2)).Pairwise fun a b => a.1 < b.1 := by
    rw [List.pairwise_append, List.pairwise_append, List.pairwise_append]
    refine ⟨⟨⟨u1, by simp, fun a ha b hb => by simp at hb; subst hb; exact u3 a ha b (by simp)⟩, by simp, fun a ha b hb => ?_⟩, by rw [List.pairwise_map]; exact u5.imp fun z => by simp only; omega, fun a ha b hb => ?_⟩
    · simp at hb; subst hb
      simp only
      rcases List.mem_append.mp ha with q | q
      · have := u3 a q x (by simp); omega
      · simp at q; subst q; omega
    · obtain ⟨t, ht, rfl⟩ := List.mem_map.mp hb
      have := u4 t ht
      simp only
      rcases List.mem_append.mp ha with q | q
      · rcases List.mem_append.mp q with q | q
        · have := u3 a q x (by simp); omega
        · simp at q; subst q; omega
      · simp at q; subst q; simp only; omega
  have mem : ∀ t ∈ pre ++ [x] ++ [((x.1 + 1, x.2) : P2)] ++ post.map (fun t : P2 => ((t.1 + 1, t.2) : P2)), (0 ≤ t.2 ∧ t.2 ≤ 99) ∧ t.1 ≤ 61 := fun t ht => by
    have hx0 := hra x (by simp); have hx1 := hr x (by simp); have hx2 := hb x (by simp)
    rcases List.mem_append.mp ht with q | q
    · rcases List.mem_append.mp q with q | q
      · rcases List.mem_append.mp q with q | q
        · have := hra t (by simp [q]); have := hr t (by simp [q]); have := hb t (by simp [q]); omega
        · simp at q; subst q; omega
      · simp at q; subst q; simp only; omega
    · obtain ⟨y, hy, rfl⟩ := List.mem_map.mp q
      have := hra y (by simp [hy]); have := hr y (by simp [hy]); have := hb y (by simp [hy])
      simp only; omega
  have len : (pre ++ [x] ++ [((x.1 + 1, x.2) : P2)] ++ post.map fun t : P2 => ((t.1 + 1, t.2) : P2)).length ≤ 8 := by simp at hl ⊢; omega
  refine ⟨⟨by simp, fun t z => hd t (by cases pre with
    | nil => simpa using z
    | cons a r => simpa using z), key, fun t ht => by have := mem t ht; omega, fun t ht => by have := mem t ht; omega, by omega⟩, len, fun t ht => (mem t ht).1.2, fun t ht => (mem t ht).2⟩
theorem V2_Tl {one : List P2} (h : Tb one) (hl : one.length ≤ 5) (hr : ∀ t ∈ one, t.2 ≤ 99) (hb : ∀ t ∈ one, t.1 ≤ 60) {k : Nat} {x : P2} (hx : one[k]? = some x) : Tl (V2 one k x) := by
  obtain ⟨pre, post, e, _, e2, _, e4⟩ := split_at hx
  unfold V2
  rw [e2, e4]
  have hu := h.up
  rw [e] at hu hl hr hb
  have hra := h.ra
  rw [e] at hra
  have hd := h.hd
  rw [e] at hd
  obtain ⟨u1, u2, u3⟩ := List.pairwise_append.mp hu
  obtain ⟨u4, u5⟩ := List.pairwise_cons.mp u2
  have key : (pre ++ [((x.1, (x.2 + 1) / 2) : P2)] ++ post).Pairwise fun a b => a.1 < b.1 := by
    rw [List.pairwise_append, List.pairwise_append]
    refine ⟨⟨u1, by simp, fun a ha b hb => by simp at hb; subst hb; exact u3 a ha x (by simp)⟩, u5, fun a ha b hb => ?_⟩
    rcases List.mem_append.mp ha with q | q
    · exact u3 a q b (by simp [hb])
    · simp at q; subst q; exact u4 b hb
  have mem : ∀ t ∈ pre ++ [((x.1, (x.2 + 1) / 2) : P2)] ++ post, (0 ≤ t.2 ∧ t.2 ≤ 99) ∧ t.1 ≤ 61 := fun t ht => by
    have hx0 := hra x (by simp); have hx1 := hr x (by simp); have hx2 := hb x (by simp)
    rcases List.mem_append.mp ht with q | q
    · rcases List.mem_append.mp q with q | q
      · have := hra t (by simp [q]); have := hr t (by simp [q]); have := hb t (by simp [q]); omega
      · simp at q; subst q; simp only; omega
    · have := hra t (by simp [q]); have := hr t (by simp [q]); have := hb t (by simp [q]); omega
  have len : (pre ++ [((x.1, (x.2 + 1) / 2) : P2)] ++ post).length ≤ 8 := by simp at hl ⊢; omega
  refine ⟨⟨by simp, fun t z => by cases pre with
    | nil => simp at z; rw [← z]; exact hd x rfl
    | cons a r => exact hd t (by simpa using z), key, fun t ht => by have := mem t ht; omega, fun t ht => by have := mem t ht; omega, by omega⟩, len, fun t ht => (mem t ht).1.2, fun t ht => (mem t ht).2⟩
theorem okP {L : List P2} (h : L.length ≤ 100000) : okV 6 (.tuple (L.map encP)) := ⟨by rw [List.length_map]; exact h, fun d hd => by
  obtain ⟨t, _, rfl⟩ := List.mem_map.mp hd
  exact ⟨by simp, by simp [okV]⟩⟩
theorem foldl_ne : ∀ (q l : List P2), l ≠ [] → q.foldl ltS l ≠ []
  | [], _, h => h
  | t :: q, l, h => by
    rw [List.foldl_cons]
    refine foldl_ne q _ ?_
    unfold ltS
    split
    · simp
    · split
      · exact h
      · simp
theorem law_ok : LawOk f_law := fun script hs => by
  obtain ⟨ds, hds⟩ := draws_ok script hs 500 (by omega)
  generalize hsc : PyData.list (script.map .int) = sc at hds ⊢
  have hds : drawsF [.fz sc, .fz (.int 500)] = .ok (.ow (.list (ds.map .int))) [.fz sc, .fz (.int 500)] := hds
  suffices h : wM f_law [.fz sc] fun r _ => r = .fz (.bool true) by
    obtain ⟨r, ρ', e, e2⟩ := wM_iff.mp h
    subst e2; exact ⟨ρ', e⟩
  unfold f_law
  rw [wM_run']
  unfold b_law
  rw [next_eq, draws_eq, alike_eq, pick_eq]
  simp (disch := first | omega | (simp only [List.length_map, List.length_append, List.length_cons, List.length_nil, List.length_set, List.length_range, sizeLine_eq]; done) | (simp only [List.length_map, List.length_append, List.length_cons, List.length_nil, List.length_set, List.length_range, sizeLine_eq]; omega)) only [↓wM_bd, ↓wM_pr, ↓wM_opt, ↓wM_C, ↓wM_var, ↓wM_look_fz, ↓wM_look_ow, ↓wM_look_nm, ↓wM_frz_fz, ↓wM_frz_ow, ↓wM_frz_nm, ↓wM_op2, ↓wM_op2T, ↓wO_gB, ↓wM_op1, ↓wM_nil, ↓wM_cons, ↓wM_frzA0, ↓wM_frzA, ↓wM_lookA0, ↓wM_lookA, ↓wM_tup, ↓wM_lst, ↓wM_B, ↓wM_isi, ↓wM_me, ↓wM_sl, ↓wM_noP, ↓wM_part, ↓wM_key, ↓wM_call, ↓wM_argSA0, ↓wM_argSA, ↓wM_argS_fz, ↓wM_argS_ow, ↓wM_argS_nm, ↓wM_mut, ↓wM_yes, ↓wM_rng1, ↓wM_rng2, ↓wM_wkV, ↓wM_wkT, ↓wM_wkL, ↓wM_wk2, ↓wM_wkB, ↓wM_wkC, ↓wM_wkS, ↓wM_wk1, ↓wM_wkLc, ↓wM_wkIf, ↓wM_wkLR, ↓wM_rng3, ↓wM_zip, ↓wM_rga1, ↓wM_rga2, ↓wM_lrg, ↓wM_trg, ↓wM_not, ↓wM_tru, ↓wM_and, ↓wM_or, ↓wM_andV, ↓wM_orV, ↓wM_notV, ↓wM_ifE, ↓wM_chain, ↓wM_chainT, ↓wM_dispN, ↓wM_pairs0, ↓wM_pairs, ↓wM_new, ↓wO_gsC, ↓wS_seq, ↓wS_pass, ↓wS_brk, ↓wS_cnt, ↓wS_ret, ↓wS_drop, ↓wS_if, ↓wS_set, ↓wS_asg, ↓wS_par, ↓wS_put, ↓wS_augS, ↓wS_aug, ↓wM_run', wO_some, varK_fz, varK_ow, varK_lk, lookK_fz, lookK_ow, lookK_lk, frzK_fz, frzK_ow, frzK_lk, argK_fz, argK_owt, argK_owf, argK_lkt, argK_lkf, mutK_ow', mutO_ow, putK'_ow, getK_ow, fzO_fz, augK_fz, intD_int, retK_fz, retK_ow, retK_nm, retO_fz, retO_ow, retO_lk, setR_fz, setR_ow, setR_nm, setK_fz, setK_ow, setK_lk, tru_b, tru_n, tru_l, tru_t, key_i, key_s, gIAdd_ii, gISub_ii, gPow_18, gN_ok, gsN_ok, gT_ok, setQs_nil, setQs_fz, setQs_ow, outP_t, outP_f, outP_n, wkO_fz, wkO_ow, wkO_lk, wk_fz, wk_ow, wk_nm, items_l, items_t, unl_none, unl_some, unlK_lk, callK_R, callR_fz, callR_ow, rest_nil, rest_cons, restK_some, wipe_nil, wipe_cons, gAdd_ii, gSub_ii, gMul_l, gMul_r, gDiv_ii, gMod_ii, gNeg_i, gEq_ii, gEq_ss, gEq_bb, gNe_ii, gNe_ss, gLt_ii, gLe_ii, gGt_ii, gGe_ii, gIx_l0, gIx_t0, gIx_l1, gIx_t1, gIx_l2, gIx_t2, gIx_t3, gIx_tz, gRev_l, gRev_t, zipD_ll, zipD_tl, zipD_lt, zipD_tt, int1_ok, int2_ok, gLen_l, gLen_t, gLen_d, gAbs_i, gAppend_l, gExtend_l, gInt_i, gTuple_l, gTuple_t, gList_l, gList_t, gMax_ii, gMin_ii, gSum_l, gIs_none, isLst, isT, isOw, List.getElem?_cons_zero, List.getElem?_cons_succ, List.length_cons, List.length_nil, List.cons_append, List.nil_append, List.replicate, List.set_cons_zero, List.set_cons_succ, true_and, and_true, if_true, List.map_cons, List.map_nil, Nat.reduceAdd, Nat.reduceSub, Nat.reduceLT, Nat.reduceLeDiff, List.length_set, List.length_map, List.length_append, List.length_range, reduceIte, reduceDIte, Bool.false_eq_true, slotOf, wb, Option.getD_some, nmOk, heldR, List.all_cons, List.all_nil, List.any_cons, List.any_nil, isNm, Bool.and_true, Bool.true_and, Bool.false_and, Bool.and_false, Bool.not_false, Bool.not_true, Bool.or_false, hds, W0]
  refine wS_forI (l := none) (by simp (disch := first | omega | (simp only [List.length_map, List.length_append, List.length_cons, List.length_nil, List.length_set, List.length_range, sizeLine_eq]; done) | (simp only [List.length_map, List.length_append, List.length_cons, List.length_nil, List.length_set, List.length_range, sizeLine_eq]; omega)) only [↓wM_bd, ↓wM_pr, ↓wM_opt, ↓wM_C, ↓wM_var, ↓wM_look_fz, ↓wM_look_ow, ↓wM_look_nm, ↓wM_frz_fz, ↓wM_frz_ow, ↓wM_frz_nm, ↓wM_op2, ↓wM_op2T, ↓wO_gB, ↓wM_op1, ↓wM_nil, ↓wM_cons, ↓wM_frzA0, ↓wM_frzA, ↓wM_lookA0, ↓wM_lookA, ↓wM_tup, ↓wM_lst, ↓wM_B, ↓wM_isi, ↓wM_me, ↓wM_sl, ↓wM_noP, ↓wM_part, ↓wM_key, ↓wM_call, ↓wM_argSA0, ↓wM_argSA, ↓wM_argS_fz, ↓wM_argS_ow, ↓wM_argS_nm, ↓wM_mut, ↓wM_yes, ↓wM_rng1, ↓wM_rng2, ↓wM_wkV, ↓wM_wkT, ↓wM_wkL, ↓wM_wk2, ↓wM_wkB, ↓wM_wkC, ↓wM_wkS, ↓wM_wk1, ↓wM_wkLc, ↓wM_wkIf, ↓wM_wkLR, ↓wM_rng3, ↓wM_zip, ↓wM_rga1, ↓wM_rga2, ↓wM_lrg, ↓wM_trg, ↓wM_not, ↓wM_tru, ↓wM_and, ↓wM_or, ↓wM_andV, ↓wM_orV, ↓wM_notV, ↓wM_ifE, ↓wM_chain, ↓wM_chainT, ↓wM_dispN, ↓wM_pairs0, ↓wM_pairs, ↓wM_new, ↓wO_gsC, ↓wS_seq, ↓wS_pass, ↓wS_brk, ↓wS_cnt, ↓wS_ret, ↓wS_drop, ↓wS_if, ↓wS_set, ↓wS_asg, ↓wS_par, ↓wS_put, ↓wS_augS, ↓wS_aug, ↓wM_run', wO_some, varK_fz, varK_ow, varK_lk, lookK_fz, lookK_ow, lookK_lk, frzK_fz, frzK_ow, frzK_lk, argK_fz, argK_owt, argK_owf, argK_lkt, argK_lkf, mutK_ow', mutO_ow, putK'_ow, getK_ow, fzO_fz, augK_fz, intD_int, retK_fz, retK_ow, retK_nm, retO_fz, retO_ow, retO_lk, setR_fz, setR_ow, setR_nm, setK_fz, setK_ow, setK_lk, tru_b, tru_n, tru_l, tru_t, key_i, key_s, gIAdd_ii, gISub_ii, gPow_18, gN_ok, gsN_ok, gT_ok, setQs_nil, setQs_fz, setQs_ow, outP_t, outP_f, outP_n, wkO_fz, wkO_ow, wkO_lk, wk_fz, wk_ow, wk_nm, items_l, items_t, unl_none, unl_some, unlK_lk, callK_R, callR_fz, callR_ow, rest_nil, rest_cons, restK_some, wipe_nil, wipe_cons, gAdd_ii, gSub_ii, gMul_l, gMul_r, gDiv_ii, gMod_ii, gNeg_i, gEq_ii, gEq_ss, gEq_bb, gNe_ii, gNe_ss, gLt_ii, gLe_ii, gGt_ii, gGe_ii, gIx_l0, gIx_t0, gIx_l1, gIx_t1, gIx_l2, gIx_t2, gIx_t3, gIx_tz, gRev_l, gRev_t, zipD_ll, zipD_tl, zipD_lt, zipD_tt, int1_ok, int2_ok, gLen_l, gLen_t, gLen_d, gAbs_i, gAppend_l, gExtend_l, gInt_i, gTuple_l, gTuple_t, gList_l, gList_t, gMax_ii, gMin_ii, gSum_l, gIs_none, isLst, isT, isOw, List.getElem?_cons_zero, List.getElem?_cons_succ, List.length_cons, List.length_nil, List.cons_append, List.nil_append, List.replicate, List.set_cons_zero, List.set_cons_succ, true_and, and_true, if_true, List.map_cons, List.map_nil, Nat.reduceAdd, Nat.reduceSub, Nat.reduceLT, Nat.reduceLeDiff, List.length_set, List.length_map, List.length_append, List.length_range, reduceIte, reduceDIte, Bool.false_eq_true, slotOf, wb, Option.getD_some, nmOk, heldR, List.all_cons, List.all_nil, List.any_cons, List.any_nil, isNm, Bool.and_true, Bool.true_and, Bool.false_and, Bool.and_false, Bool.not_false, Bool.not_true, Bool.or_false, rng1_ok, rng2_ok] <;> (first | exact ⟨rfl, rfl⟩ | exact rfl)) (fun _ ρ => ∃ (i : Nat) (s2 s3 s4 s5 s6 s7 s8 s9 s10 s11 s12 s13 s14 : Sl), ρ = [.fz sc, .ow (Wd ds i), s2, s3, s4, s5, s6, s7, s8, s9, s10, s11, s12, s13, s14]) ⟨0, _, _, _, _, _, _, _, _, _, _, _, _, _, rfl⟩ ?_ ?_
  rotate_left
  · rintro ρ ⟨i, s2, s3, s4, s5, s6, s7, s8, s9, s10, s11, s12, s13, s14, rfl⟩
    simp (disch := first | omega | (simp only [List.length_map, List.length_append, List.length_cons, List.length_nil, List.length_set, List.length_range, sizeLine_eq]; done) | (simp only [List.length_map, List.length_append, List.length_cons, List.length_nil, List.length_set, List.length_range, sizeLine_eq]; omega)) only [↓wM_bd, ↓wM_pr, ↓wM_opt, ↓wM_C, ↓wM_var, ↓wM_look_fz, ↓wM_look_ow, ↓wM_look_nm, ↓wM_frz_fz, ↓wM_frz_ow, ↓wM_frz_nm, ↓wM_op2, ↓wM_op2T, ↓wO_gB, ↓wM_op1, ↓wM_nil, ↓wM_cons, ↓wM_frzA0, ↓wM_frzA, ↓wM_lookA0, ↓wM_lookA, ↓wM_tup, ↓wM_lst, ↓wM_B, ↓wM_isi, ↓wM_me, ↓wM_sl, ↓wM_noP, ↓wM_part, ↓wM_key, ↓wM_call, ↓wM_argSA0, ↓wM_argSA, ↓wM_argS_fz, ↓wM_argS_ow, ↓wM_argS_nm, ↓wM_mut, ↓wM_yes, ↓wM_rng1, ↓wM_rng2, ↓wM_wkV, ↓wM_wkT, ↓wM_wkL, ↓wM_wk2, ↓wM_wkB, ↓wM_wkC, ↓wM_wkS, ↓wM_wk1, ↓wM_wkLc, ↓wM_wkIf, ↓wM_wkLR, ↓wM_rng3, ↓wM_zip, ↓wM_rga1, ↓wM_rga2, ↓wM_lrg, ↓wM_trg, ↓wM_not, ↓wM_tru, ↓wM_and, ↓wM_or, ↓wM_andV, ↓wM_orV, ↓wM_notV, ↓wM_ifE, ↓wM_chain, ↓wM_chainT, ↓wM_dispN, ↓wM_pairs0, ↓wM_pairs, ↓wM_new, ↓wO_gsC, ↓wS_seq, ↓wS_pass, ↓wS_brk, ↓wS_cnt, ↓wS_ret, ↓wS_drop, ↓wS_if, ↓wS_set, ↓wS_asg, ↓wS_par, ↓wS_put, ↓wS_augS, ↓wS_aug, ↓wM_run', wO_some, varK_fz, varK_ow, varK_lk, lookK_fz, lookK_ow, lookK_lk, frzK_fz, frzK_ow, frzK_lk, argK_fz, argK_owt, argK_owf, argK_lkt, argK_lkf, mutK_ow', mutO_ow, putK'_ow, getK_ow, fzO_fz, augK_fz, intD_int, retK_fz, retK_ow, retK_nm, retO_fz, retO_ow, retO_lk, setR_fz, setR_ow, setR_nm, setK_fz, setK_ow, setK_lk, tru_b, tru_n, tru_l, tru_t, key_i, key_s, gIAdd_ii, gISub_ii, gPow_18, gN_ok, gsN_ok, gT_ok, setQs_nil, setQs_fz, setQs_ow, outP_t, outP_f, outP_n, wkO_fz, wkO_ow, wkO_lk, wk_fz, wk_ow, wk_nm, items_l, items_t, unl_none, unl_some, unlK_lk, callK_R, callR_fz, callR_ow, rest_nil, rest_cons, restK_some, wipe_nil, wipe_cons, gAdd_ii, gSub_ii, gMul_l, gMul_r, gDiv_ii, gMod_ii, gNeg_i, gEq_ii, gEq_ss, gEq_bb, gNe_ii, gNe_ss, gLt_ii, gLe_ii, gGt_ii, gGe_ii, gIx_l0, gIx_t0, gIx_l1, gIx_t1, gIx_l2, gIx_t2, gIx_t3, gIx_tz, gRev_l, gRev_t, zipD_ll, zipD_tl, zipD_lt, zipD_tt, int1_ok, int2_ok, gLen_l, gLen_t, gLen_d, gAbs_i, gAppend_l, gExtend_l, gInt_i, gTuple_l, gTuple_t, gList_l, gList_t, gMax_ii, gMin_ii, gSum_l, gIs_none, isLst, isT, isOw, List.getElem?_cons_zero, List.getElem?_cons_succ, List.length_cons, List.length_nil, List.cons_append, List.nil_append, List.replicate, List.set_cons_zero, List.set_cons_succ, true_and, and_true, if_true, List.map_cons, List.map_nil, Nat.reduceAdd, Nat.reduceSub, Nat.reduceLT, Nat.reduceLeDiff, List.length_set, List.length_map, List.length_append, List.length_range, reduceIte, reduceDIte, Bool.false_eq_true, slotOf, wb, Option.getD_some, nmOk, heldR, List.all_cons, List.all_nil, List.any_cons, List.any_nil, isNm, Bool.and_true, Bool.true_and, Bool.false_and, Bool.and_false, Bool.not_false, Bool.not_true, Bool.or_false]
  rintro turn d ρ _ ⟨i, s2, s3, s4, s5, s6, s7, s8, s9, s10, s11, s12, s13, s14, rfl⟩
  obtain ⟨one, i1, ⟨h1, l1, r1, b1⟩, e1⟩ := ltable_ok ds i
  obtain ⟨oth, i2, ⟨h2, l2, r2, b2⟩, e2⟩ := ltable_ok ds i1
  have hpos := List.length_pos_iff.mpr h1.ne
  have c1 := nx_bd ds i2 (one.length : Nat) (by omega)
  obtain ⟨k, hk⟩ : ∃ k : Nat, nx ds i2 (one.length : Nat) = (k : Nat) := ⟨(nx ds i2 (one.length : Nat)).toNat, by omega⟩
  have hkl : k < one.length := by omega
  obtain ⟨x, hx⟩ : ∃ x, one[k]? = some x := ⟨_, List.getElem?_eq_getElem hkl⟩
  have hxm : x ∈ one := List.mem_of_getElem? hx
  have hx0 := h1.ra x hxm
  have t1 := V1_Tl h1 l1 r1 b1 hx
  have t2 := V2_Tl h1 l1 r1 b1 hx
  have gx : gIx (.tuple (one.map encP)) (.int (k : Nat)) = some (.fz (encP x)) := gIx_t (by omega) (by rw [Int.toNat_natCast, List.getElem?_map, hx]; rfl)
  have gx0 : ∀ t, gIx (encP t) (.int 0) = some (.fz (.int t.1)) := fun _ => rfl
  have gx1 : ∀ t, gIx (encP t) (.int 1) = some (.fz (.int t.2)) := fun _ => rfl
  have hk1 : (k : Int) + 1 = ((k + 1 : Nat) : Int) := rfl
  have A1 : gAdd (.tuple ((one.map encP).take (k + 1))) (.tuple [.tuple [.int (x.1 + 1), .int x.2]]) = some (.fz (.tuple ((one.take (k + 1) ++ [(x.1 + 1, x.2)]).map encP))) := by
    rw [gAdd_tt (by simp only [List.length_take, List.length_map, List.length_cons, List.length_nil, sizeLine_eq]; omega), ← List.map_take, List.map_append]; rfl
  have A2 : gAdd (.tuple ((one.take (k + 1) ++ [(x.1 + 1, x.2)]).map encP)) (.tuple ((one.drop (k + 1)).map fun t => encP (t.1 + 1, t.2))) = some (.fz (.tuple ((V1 one k x).map encP))) := by
    rw [gAdd_tt (by simp only [List.length_take, List.length_drop, List.length_append, List.length_map, List.length_cons, List.length_nil, sizeLine_eq]; omega)]
    unfold V1
    rw [List.map_append (l₂ := List.map _ _), List.map_map]; rfl
  have A3 : gAdd (.tuple ((one.map encP).take k)) (.tuple [.tuple [.int x.1, .int ((x.2 + 1) / 2)]]) = some (.fz (.tuple ((one.take k ++ [(x.1, (x.2 + 1) / 2)]).map encP))) := by
    rw [gAdd_tt (by simp only [List.length_take, List.length_map, List.length_cons, List.length_nil, sizeLine_eq]; omega), ← List.map_take, List.map_append]; rfl
  have A4 : gAdd (.tuple ((one.take k ++ [(x.1, (x.2 + 1) / 2)]).map encP)) (.tuple ((one.map encP).drop (k + 1))) = some (.fz (.tuple ((V2 one k x).map encP))) := by
    rw [gAdd_tt (by simp only [List.length_take, List.length_drop, List.length_append, List.length_map, List.length_cons, List.length_nil, sizeLine_eq]; omega)]
    unfold V2
    rw [← List.map_drop, ← List.map_append]
  simp (disch := first | omega | (simp only [List.length_map, List.length_append, List.length_cons, List.length_nil, List.length_set, List.length_range, sizeLine_eq]; done) | (simp only [List.length_map, List.length_append, List.length_cons, List.length_nil, List.length_set, List.length_range, sizeLine_eq]; omega)) only [↓wM_bd, ↓wM_pr, ↓wM_opt, ↓wM_C, ↓wM_var, ↓wM_look_fz, ↓wM_look_ow, ↓wM_look_nm, ↓wM_frz_fz, ↓wM_frz_ow, ↓wM_frz_nm, ↓wM_op2, ↓wM_op2T, ↓wO_gB, ↓wM_op1, ↓wM_nil, ↓wM_cons, ↓wM_frzA0, ↓wM_frzA, ↓wM_lookA0, ↓wM_lookA, ↓wM_tup, ↓wM_lst, ↓wM_B, ↓wM_isi, ↓wM_me, ↓wM_sl, ↓wM_noP, ↓wM_part, ↓wM_key, ↓wM_call, ↓wM_argSA0, ↓wM_argSA, ↓wM_argS_fz, ↓wM_argS_ow, ↓wM_argS_nm, ↓wM_mut, ↓wM_yes, ↓wM_rng1, ↓wM_rng2, ↓wM_wkV, ↓wM_wkT, ↓wM_wkL, ↓wM_wk2, ↓wM_wkB, ↓wM_wkC, ↓wM_wkS, ↓wM_wk1, ↓wM_wkLc, ↓wM_wkIf, ↓wM_wkLR, ↓wM_rng3, ↓wM_zip, ↓wM_rga1, ↓wM_rga2, ↓wM_lrg, ↓wM_trg, ↓wM_not, ↓wM_tru, ↓wM_and, ↓wM_or, ↓wM_andV, ↓wM_orV, ↓wM_notV, ↓wM_ifE, ↓wM_chain, ↓wM_chainT, ↓wM_dispN, ↓wM_pairs0, ↓wM_pairs, ↓wM_new, ↓wO_gsC, ↓wS_seq, ↓wS_pass, ↓wS_brk, ↓wS_cnt, ↓wS_ret, ↓wS_drop, ↓wS_if, ↓wS_set, ↓wS_asg, ↓wS_par, ↓wS_put, ↓wS_augS, ↓wS_aug, ↓wM_run', wO_some, varK_fz, varK_ow, varK_lk, lookK_fz, lookK_ow, lookK_lk, frzK_fz, frzK_ow, frzK_lk, argK_fz, argK_owt, argK_owf, argK_lkt, argK_lkf, mutK_ow', mutO_ow, putK'_ow, getK_ow, fzO_fz, augK_fz, intD_int, retK_fz, retK_ow, retK_nm, retO_fz, retO_ow, retO_lk, setR_fz, setR_ow, setR_nm, setK_fz, setK_ow, setK_lk, tru_b, tru_n, tru_l, tru_t, key_i, key_s, gIAdd_ii, gISub_ii, gPow_18, gN_ok, gsN_ok, gT_ok, setQs_nil, setQs_fz, setQs_ow, outP_t, outP_f, outP_n, wkO_fz, wkO_ow, wkO_lk, wk_fz, wk_ow, wk_nm, items_l, items_t, unl_none, unl_some, unlK_lk, callK_R, callR_fz, callR_ow, rest_nil, rest_cons, restK_some, wipe_nil, wipe_cons, gAdd_ii, gSub_ii, gMul_l, gMul_r, gDiv_ii, gMod_ii, gNeg_i, gEq_ii, gEq_ss, gEq_bb, gNe_ii, gNe_ss, gLt_ii, gLe_ii, gGt_ii, gGe_ii, gIx_l0, gIx_t0, gIx_l1, gIx_t1, gIx_l2, gIx_t2, gIx_t3, gIx_tz, gRev_l, gRev_t, zipD_ll, zipD_tl, zipD_lt, zipD_tt, int1_ok, int2_ok, gLen_l, gLen_t, gLen_d, gAbs_i, gAppend_l, gExtend_l, gInt_i, gTuple_l, gTuple_t, gList_l, gList_t, gMax_ii, gMin_ii, gSum_l, gIs_none, isLst, isT, isOw, List.getElem?_cons_zero, List.getElem?_cons_succ, List.length_cons, List.length_nil, List.cons_append, List.nil_append, List.replicate, List.set_cons_zero, List.set_cons_succ, true_and, and_true, if_true, List.map_cons, List.map_nil, Nat.reduceAdd, Nat.reduceSub, Nat.reduceLT, Nat.reduceLeDiff, List.length_set, List.length_map, List.length_append, List.length_range, reduceIte, reduceDIte, Bool.false_eq_true, slotOf, wb, Option.getD_some, nmOk, heldR, List.all_cons, List.all_nil, List.any_cons, List.any_nil, isNm, Bool.and_true, Bool.true_and, Bool.false_and, Bool.and_false, Bool.not_false, Bool.not_true, Bool.or_false, e1, e2, next_ok', hk, gx, gx0, gx1, hk1, gSl_t, cutD_take, A1]
  refine wM_lcY (enc := encP) (xs := one.drop (k + 1)) (l := none) (by
      simp (disch := first | omega | (simp only [List.length_map, List.length_append, List.length_cons, List.length_nil, List.length_set, List.length_range, sizeLine_eq]; done) | (simp only [List.length_map, List.length_append, List.length_cons, List.length_nil, List.length_set, List.length_range, sizeLine_eq]; omega)) only [↓wM_bd, ↓wM_pr, ↓wM_opt, ↓wM_C, ↓wM_var, ↓wM_look_fz, ↓wM_look_ow, ↓wM_look_nm, ↓wM_frz_fz, ↓wM_frz_ow, ↓wM_frz_nm, ↓wM_op2, ↓wM_op2T, ↓wO_gB, ↓wM_op1, ↓wM_nil, ↓wM_cons, ↓wM_frzA0, ↓wM_frzA, ↓wM_lookA0, ↓wM_lookA, ↓wM_tup, ↓wM_lst, ↓wM_B, ↓wM_isi, ↓wM_me, ↓wM_sl, ↓wM_noP, ↓wM_part, ↓wM_key, ↓wM_call, ↓wM_argSA0, ↓wM_argSA, ↓wM_argS_fz, ↓wM_argS_ow, ↓wM_argS_nm, ↓wM_mut, ↓wM_yes, ↓wM_rng1, ↓wM_rng2, ↓wM_wkV, ↓wM_wkT, ↓wM_wkL, ↓wM_wk2, ↓wM_wkB, ↓wM_wkC, ↓wM_wkS, ↓wM_wk1, ↓wM_wkLc, ↓wM_wkIf, ↓wM_wkLR, ↓wM_rng3, ↓wM_zip, ↓wM_rga1, ↓wM_rga2, ↓wM_lrg, ↓wM_trg, ↓wM_not, ↓wM_tru, ↓wM_and, ↓wM_or, ↓wM_andV, ↓wM_orV, ↓wM_notV, ↓wM_ifE, ↓wM_chain, ↓wM_chainT, ↓wM_dispN, ↓wM_pairs0, ↓wM_pairs, ↓wM_new, ↓wO_gsC, ↓wS_seq, ↓wS_pass, ↓wS_brk, ↓wS_cnt, ↓wS_ret, ↓wS_drop, ↓wS_if, ↓wS_set, ↓wS_asg, ↓wS_par, ↓wS_put, ↓wS_augS, ↓wS_aug, ↓wM_run', wO_some, varK_fz, varK_ow, varK_lk, lookK_fz, lookK_ow, lookK_lk, frzK_fz, frzK_ow, frzK_lk, argK_fz, argK_owt, argK_owf, argK_lkt, argK_lkf, mutK_ow', mutO_ow, putK'_ow, getK_ow, fzO_fz, augK_fz, intD_int, retK_fz, retK_ow, retK_nm, retO_fz, retO_ow, retO_lk, setR_fz, setR_ow, setR_nm, setK_fz, setK_ow, setK_lk, tru_b, tru_n, tru_l, tru_t, key_i, key_s, gIAdd_ii, gISub_ii, gPow_18, gN_ok, gsN_ok, gT_ok, setQs_nil, setQs_fz, setQs_ow, outP_t, outP_f, outP_n, wkO_fz, wkO_ow, wkO_lk, wk_fz, wk_ow, wk_nm, items_l, items_t, unl_none, unl_some, unlK_lk, callK_R, callR_fz, callR_ow, rest_nil, rest_cons, restK_some, wipe_nil, wipe_cons, gAdd_ii, gSub_ii, gMul_l, gMul_r, gDiv_ii, gMod_ii, gNeg_i, gEq_ii, gEq_ss, gEq_bb, gNe_ii, gNe_ss, gLt_ii, gLe_ii, gGt_ii, gGe_ii, gIx_l0, gIx_t0, gIx_l1, gIx_t1, gIx_l2, gIx_t2, gIx_t3, gIx_tz, gRev_l, gRev_t, zipD_ll, zipD_tl, zipD_lt, zipD_tt, int1_ok, int2_ok, gLen_l, gLen_t, gLen_d, gAbs_i, gAppend_l, gExtend_l, gInt_i, gTuple_l, gTuple_t, gList_l, gList_t, gMax_ii, gMin_ii, gSum_l, gIs_none, isLst, isT, isOw, List.getElem?_cons_zero, List.getElem?_cons_succ, List.length_cons, List.length_nil, List.cons_append, List.nil_append, List.replicate, List.set_cons_zero, List.set_cons_succ, true_and, and_true, if_true, List.map_cons, List.map_nil, Nat.reduceAdd, Nat.reduceSub, Nat.reduceLT, Nat.reduceLeDiff, List.length_set, List.length_map, List.length_append, List.length_range, reduceIte, reduceDIte, Bool.false_eq_true, slotOf, wb, Option.getD_some, nmOk, heldR, List.all_cons, List.all_nil, List.any_cons, List.any_nil, isNm, Bool.and_true, Bool.true_and, Bool.false_and, Bool.and_false, Bool.not_false, Bool.not_true, Bool.or_false, gSl_t, hk1, cutD_drop, ← List.map_drop]
      all_goals first | exact ⟨rfl, rfl⟩ | rfl) (fun t => encP (t.1 + 1, t.2)) (by rw [List.length_drop, sizeLine_eq]; omega) (fun t ht => ?_) ?_
  · rw [show encP t = .tuple [.int t.1, .int t.2] from rfl]
    simp (disch := first | omega | (simp only [List.length_map, List.length_append, List.length_cons, List.length_nil, List.length_set, List.length_range, sizeLine_eq]; done) | (simp only [List.length_map, List.length_append, List.length_cons, List.length_nil, List.length_set, List.length_range, sizeLine_eq]; omega)) only [↓wM_bd, ↓wM_pr, ↓wM_opt, ↓wM_C, ↓wM_var, ↓wM_look_fz, ↓wM_look_ow, ↓wM_look_nm, ↓wM_frz_fz, ↓wM_frz_ow, ↓wM_frz_nm, ↓wM_op2, ↓wM_op2T, ↓wO_gB, ↓wM_op1, ↓wM_nil, ↓wM_cons, ↓wM_frzA0, ↓wM_frzA, ↓wM_lookA0, ↓wM_lookA, ↓wM_tup, ↓wM_lst, ↓wM_B, ↓wM_isi, ↓wM_me, ↓wM_sl, ↓wM_noP, ↓wM_part, ↓wM_key, ↓wM_call, ↓wM_argSA0, ↓wM_argSA, ↓wM_argS_fz, ↓wM_argS_ow, ↓wM_argS_nm, ↓wM_mut, ↓wM_yes, ↓wM_rng1, ↓wM_rng2, ↓wM_wkV, ↓wM_wkT, ↓wM_wkL, ↓wM_wk2, ↓wM_wkB, ↓wM_wkC, ↓wM_wkS, ↓wM_wk1, ↓wM_wkLc, ↓wM_wkIf, ↓wM_wkLR, ↓wM_rng3, ↓wM_zip, ↓wM_rga1, ↓wM_rga2, ↓wM_lrg, ↓wM_trg, ↓wM_not, ↓wM_tru, ↓wM_and, ↓wM_or, ↓wM_andV, ↓wM_orV, ↓wM_notV, ↓wM_ifE, ↓wM_chain, ↓wM_chainT, ↓wM_dispN, ↓wM_pairs0, ↓wM_pairs, ↓wM_new, ↓wO_gsC, ↓wS_seq, ↓wS_pass, ↓wS_brk, ↓wS_cnt, ↓wS_ret, ↓wS_drop, ↓wS_if, ↓wS_set, ↓wS_asg, ↓wS_par, ↓wS_put, ↓wS_augS, ↓wS_aug, ↓wM_run', wO_some, varK_fz, varK_ow, varK_lk, lookK_fz, lookK_ow, lookK_lk, frzK_fz, frzK_ow, frzK_lk, argK_fz, argK_owt, argK_owf, argK_lkt, argK_lkf, mutK_ow', mutO_ow, putK'_ow, getK_ow, fzO_fz, augK_fz, intD_int, retK_fz, retK_ow, retK_nm, retO_fz, retO_ow, retO_lk, setR_fz, setR_ow, setR_nm, setK_fz, setK_ow, setK_lk, tru_b, tru_n, tru_l, tru_t, key_i, key_s, gIAdd_ii, gISub_ii, gPow_18, gN_ok, gsN_ok, gT_ok, setQs_nil, setQs_fz, setQs_ow, outP_t, outP_f, outP_n, wkO_fz, wkO_ow, wkO_lk, wk_fz, wk_ow, wk_nm, items_l, items_t, unl_none, unl_some, unlK_lk, callK_R, callR_fz, callR_ow, rest_nil, rest_cons, restK_some, wipe_nil, wipe_cons, gAdd_ii, gSub_ii, gMul_l, gMul_r, gDiv_ii, gMod_ii, gNeg_i, gEq_ii, gEq_ss, gEq_bb, gNe_ii, gNe_ss, gLt_ii, gLe_ii, gGt_ii, gGe_ii, gIx_l0, gIx_t0, gIx_l1, gIx_t1, gIx_l2, gIx_t2, gIx_t3, gIx_tz, gRev_l, gRev_t, zipD_ll, zipD_tl, zipD_lt, zipD_tt, int1_ok, int2_ok, gLen_l, gLen_t, gLen_d, gAbs_i, gAppend_l, gExtend_l, gInt_i, gTuple_l, gTuple_t, gList_l, gList_t, gMax_ii, gMin_ii, gSum_l, gIs_none, isLst, isT, isOw, List.getElem?_cons_zero, List.getElem?_cons_succ, List.length_cons, List.length_nil, List.cons_append, List.nil_append, List.replicate, List.set_cons_zero, List.set_cons_succ, true_and, and_true, if_true, List.map_cons, List.map_nil, Nat.reduceAdd, Nat.reduceSub, Nat.reduceLT, Nat.reduceLeDiff, List.length_set, List.length_map, List.length_append, List.length_range, reduceIte, reduceDIte, Bool.false_eq_true, slotOf, wb, Option.getD_some, nmOk, heldR, List.all_cons, List.all_nil, List.any_cons, List.any_nil, isNm, Bool.and_true, Bool.true_and, Bool.false_and, Bool.and_false, Bool.not_false, Bool.not_true, Bool.or_false, encP]
  obtain ⟨other, hmo, hpk⟩ := pk_map (enc := fun tb : List P2 => PyData.tuple (tb.map encP)) (ds := ds) (i := i2 + 1) (xs := [oth, one, V1 one k x, V2 one k x]) (by simp)
  have hpk : pk ds (i2 + 1) [.tuple (oth.map encP), .tuple (one.map encP), .tuple ((V1 one k x).map encP), .tuple ((V2 one k x).map encP)] = .tuple (other.map encP) := hpk
  have to : Tl other := by
    simp only [List.mem_cons, List.not_mem_nil, or_false] at hmo
    rcases hmo with z | z | z | z <;> subst z
    · exact ⟨h2, by omega, r2, fun t ht => by have := b2 t ht; omega⟩
    · exact ⟨h1, by omega, r1, fun t ht => by have := b1 t ht; omega⟩
    · exact t1
    · exact t2
  simp (disch := first | omega | (simp only [List.length_map, List.length_append, List.length_cons, List.length_nil, List.length_set, List.length_range, sizeLine_eq]; done) | (simp only [List.length_map, List.length_append, List.length_cons, List.length_nil, List.length_set, List.length_range, sizeLine_eq]; omega)) only [↓wM_bd, ↓wM_pr, ↓wM_opt, ↓wM_C, ↓wM_var, ↓wM_look_fz, ↓wM_look_ow, ↓wM_look_nm, ↓wM_frz_fz, ↓wM_frz_ow, ↓wM_frz_nm, ↓wM_op2, ↓wM_op2T, ↓wO_gB, ↓wM_op1, ↓wM_nil, ↓wM_cons, ↓wM_frzA0, ↓wM_frzA, ↓wM_lookA0, ↓wM_lookA, ↓wM_tup, ↓wM_lst, ↓wM_B, ↓wM_isi, ↓wM_me, ↓wM_sl, ↓wM_noP, ↓wM_part, ↓wM_key, ↓wM_call, ↓wM_argSA0, ↓wM_argSA, ↓wM_argS_fz, ↓wM_argS_ow, ↓wM_argS_nm, ↓wM_mut, ↓wM_yes, ↓wM_rng1, ↓wM_rng2, ↓wM_wkV, ↓wM_wkT, ↓wM_wkL, ↓wM_wk2, ↓wM_wkB, ↓wM_wkC, ↓wM_wkS, ↓wM_wk1, ↓wM_wkLc, ↓wM_wkIf, ↓wM_wkLR, ↓wM_rng3, ↓wM_zip, ↓wM_rga1, ↓wM_rga2, ↓wM_lrg, ↓wM_trg, ↓wM_not, ↓wM_tru, ↓wM_and, ↓wM_or, ↓wM_andV, ↓wM_orV, ↓wM_notV, ↓wM_ifE, ↓wM_chain, ↓wM_chainT, ↓wM_dispN, ↓wM_pairs0, ↓wM_pairs, ↓wM_new, ↓wO_gsC, ↓wS_seq, ↓wS_pass, ↓wS_brk, ↓wS_cnt, ↓wS_ret, ↓wS_drop, ↓wS_if, ↓wS_set, ↓wS_asg, ↓wS_par, ↓wS_put, ↓wS_augS, ↓wS_aug, ↓wM_run', wO_some, varK_fz, varK_ow, varK_lk, lookK_fz, lookK_ow, lookK_lk, frzK_fz, frzK_ow, frzK_lk, argK_fz, argK_owt, argK_owf, argK_lkt, argK_lkf, mutK_ow', mutO_ow, putK'_ow, getK_ow, fzO_fz, augK_fz, intD_int, retK_fz, retK_ow, retK_nm, retO_fz, retO_ow, retO_lk, setR_fz, setR_ow, setR_nm, setK_fz, setK_ow, setK_lk, tru_b, tru_n, tru_l, tru_t, key_i, key_s, gIAdd_ii, gISub_ii, gPow_18, gN_ok, gsN_ok, gT_ok, setQs_nil, setQs_fz, setQs_ow, outP_t, outP_f, outP_n, wkO_fz, wkO_ow, wkO_lk, wk_fz, wk_ow, wk_nm, items_l, items_t, unl_none, unl_some, unlK_lk, callK_R, callR_fz, callR_ow, rest_nil, rest_cons, restK_some, wipe_nil, wipe_cons, gAdd_ii, gSub_ii, gMul_l, gMul_r, gDiv_ii, gMod_ii, gNeg_i, gEq_ii, gEq_ss, gEq_bb, gNe_ii, gNe_ss, gLt_ii, gLe_ii, gGt_ii, gGe_ii, gIx_l0, gIx_t0, gIx_l1, gIx_t1, gIx_l2, gIx_t2, gIx_t3, gIx_tz, gRev_l, gRev_t, zipD_ll, zipD_tl, zipD_lt, zipD_tt, int1_ok, int2_ok, gLen_l, gLen_t, gLen_d, gAbs_i, gAppend_l, gExtend_l, gInt_i, gTuple_l, gTuple_t, gList_l, gList_t, gMax_ii, gMin_ii, gSum_l, gIs_none, isLst, isT, isOw, List.getElem?_cons_zero, List.getElem?_cons_succ, List.length_cons, List.length_nil, List.cons_append, List.nil_append, List.replicate, List.set_cons_zero, List.set_cons_succ, true_and, and_true, if_true, List.map_cons, List.map_nil, Nat.reduceAdd, Nat.reduceSub, Nat.reduceLT, Nat.reduceLeDiff, List.length_set, List.length_map, List.length_append, List.length_range, reduceIte, reduceDIte, Bool.false_eq_true, slotOf, wb, Option.getD_some, nmOk, heldR, List.all_cons, List.all_nil, List.any_cons, List.any_nil, isNm, Bool.and_true, Bool.true_and, Bool.false_and, Bool.and_false, Bool.not_false, Bool.not_true, Bool.or_false, A2, gx, gx0, gx1, hk1, gSl_t, cutD_take, cutD_drop, A3, A4, pick_o, hpk]
  clear A1 A2 A3 A4 hpk hmo t1 t2 gx hk c1 e1 e2
  obtain ⟨ini, z, hz⟩ : ∃ ini z, one = ini ++ [z] := by
    rcases List.eq_nil_or_concat one with e | ⟨ini, z, e⟩
    · exact absurd e h1.ne
    · exact ⟨ini, z, by rw [e, List.concat_eq_append]⟩
  have hzm : z ∈ one := by rw [hz]; simp
  have hz0 := h1.ge z hzm
  have hz1 := h1.le z hzm
  have hlast : gIx (.tuple (one.map encP)) (.int (-1)) = some (.fz (encP z)) := by
    rw [show one.map encP = ini.map encP ++ [encP z] by rw [hz, List.map_append]; rfl]; exact gIx_tz
  have c2 := nx_bd ds (i2 + 1 + 1) 80 (by omega)
  generalize hq : nx ds (i2 + 1 + 1) 80 = q at c2
  refine wS_forI (ds := List.map PyData.int [0, 1, q, z.1]) (l := none) ?_ (fun _ ρ => ∃ (s8 : Sl), ρ = [.fz sc, .ow (Wd ds (i2 + 1 + 1 + 1 : Nat)), .fz d, .fz (.tuple (one.map encP)), .fz (.tuple (other.map encP)), .fz (.int (k : Nat)), s6, s7, s8, s9, s10, s11, s12, s13, s14]) ⟨s8, rfl⟩ ?_ ?_
  · simp (disch := first | omega | (simp only [List.length_map, List.length_append, List.length_cons, List.length_nil, List.length_set, List.length_range, sizeLine_eq]; done) | (simp only [List.length_map, List.length_append, List.length_cons, List.length_nil, List.length_set, List.length_range, sizeLine_eq]; omega)) only [↓wM_bd, ↓wM_pr, ↓wM_opt, ↓wM_C, ↓wM_var, ↓wM_look_fz, ↓wM_look_ow, ↓wM_look_nm, ↓wM_frz_fz, ↓wM_frz_ow, ↓wM_frz_nm, ↓wM_op2, ↓wM_op2T, ↓wO_gB, ↓wM_op1, ↓wM_nil, ↓wM_cons, ↓wM_frzA0, ↓wM_frzA, ↓wM_lookA0, ↓wM_lookA, ↓wM_tup, ↓wM_lst, ↓wM_B, ↓wM_isi, ↓wM_me, ↓wM_sl, ↓wM_noP, ↓wM_part, ↓wM_key, ↓wM_call, ↓wM_argSA0, ↓wM_argSA, ↓wM_argS_fz, ↓wM_argS_ow, ↓wM_argS_nm, ↓wM_mut, ↓wM_yes, ↓wM_rng1, ↓wM_rng2, ↓wM_wkV, ↓wM_wkT, ↓wM_wkL, ↓wM_wk2, ↓wM_wkB, ↓wM_wkC, ↓wM_wkS, ↓wM_wk1, ↓wM_wkLc, ↓wM_wkIf, ↓wM_wkLR, ↓wM_rng3, ↓wM_zip, ↓wM_rga1, ↓wM_rga2, ↓wM_lrg, ↓wM_trg, ↓wM_not, ↓wM_tru, ↓wM_and, ↓wM_or, ↓wM_andV, ↓wM_orV, ↓wM_notV, ↓wM_ifE, ↓wM_chain, ↓wM_chainT, ↓wM_dispN, ↓wM_pairs0, ↓wM_pairs, ↓wM_new, ↓wO_gsC, ↓wS_seq, ↓wS_pass, ↓wS_brk, ↓wS_cnt, ↓wS_ret, ↓wS_drop, ↓wS_if, ↓wS_set, ↓wS_asg, ↓wS_par, ↓wS_put, ↓wS_augS, ↓wS_aug, ↓wM_run', wO_some, varK_fz, varK_ow, varK_lk, lookK_fz, lookK_ow, lookK_lk, frzK_fz, frzK_ow, frzK_lk, argK_fz, argK_owt, argK_owf, argK_lkt, argK_lkf, mutK_ow', mutO_ow, putK'_ow, getK_ow, fzO_fz, augK_fz, intD_int, retK_fz, retK_ow, retK_nm, retO_fz, retO_ow, retO_lk, setR_fz, setR_ow, setR_nm, setK_fz, setK_ow, setK_lk, tru_b, tru_n, tru_l, tru_t, key_i, key_s, gIAdd_ii, gISub_ii, gPow_18, gN_ok, gsN_ok, gT_ok, setQs_nil, setQs_fz, setQs_ow, outP_t, outP_f, outP_n, wkO_fz, wkO_ow, wkO_lk, wk_fz, wk_ow, wk_nm, items_l, items_t, unl_none, unl_some, unlK_lk, callK_R, callR_fz, callR_ow, rest_nil, rest_cons, restK_some, wipe_nil, wipe_cons, gAdd_ii, gSub_ii, gMul_l, gMul_r, gDiv_ii, gMod_ii, gNeg_i, gEq_ii, gEq_ss, gEq_bb, gNe_ii, gNe_ss, gLt_ii, gLe_ii, gGt_ii, gGe_ii, gIx_l0, gIx_t0, gIx_l1, gIx_t1, gIx_l2, gIx_t2, gIx_t3, gIx_tz, gRev_l, gRev_t, zipD_ll, zipD_tl, zipD_lt, zipD_tt, int1_ok, int2_ok, gLen_l, gLen_t, gLen_d, gAbs_i, gAppend_l, gExtend_l, gInt_i, gTuple_l, gTuple_t, gList_l, gList_t, gMax_ii, gMin_ii, gSum_l, gIs_none, isLst, isT, isOw, List.getElem?_cons_zero, List.getElem?_cons_succ, List.length_cons, List.length_nil, List.cons_append, List.nil_append, List.replicate, List.set_cons_zero, List.set_cons_succ, true_and, and_true, if_true, List.map_cons, List.map_nil, Nat.reduceAdd, Nat.reduceSub, Nat.reduceLT, Nat.reduceLeDiff, List.length_set, List.length_map, List.length_append, List.length_range, reduceIte, reduceDIte, Bool.false_eq_true, slotOf, wb, Option.getD_some, nmOk, heldR, List.all_cons, List.all_nil, List.any_cons, List.any_nil, isNm, Bool.and_true, Bool.true_and, Bool.false_and, Bool.and_false, Bool.not_false, Bool.not_true, Bool.or_false, next_ok', hq, hlast, gx0, Int.reduceNeg]
  · clear s8
    rintro j d' ρ hd' ⟨s8, rfl⟩
    obtain ⟨hj, rfl⟩ := at_map hd'
    have ha : ∀ a ∈ [0, 1, q, z.1], 0 ≤ a ∧ a ≤ 1000 := by intro a ha; simp at ha; omega
    have ha := ha _ (List.getElem_mem hj)
    generalize [0, 1, q, z.1][j] = a at ha
    obtain ⟨m, rfl⟩ : ∃ m : Nat, a = (m : Nat) := ⟨a.toNat, by omega⟩
    have e1 := owed_ok one m h1 ha
    rw [Int.toNat_natCast] at e1
    have e2 := lowed_ok one m h1 (by omega)
    have e3 := alike_ok 6 (.int (sumR one m)) trivial
    simp (disch := first | omega | (simp only [List.length_map, List.length_append, List.length_cons, List.length_nil, List.length_set, List.length_range, sizeLine_eq]; done) | (simp only [List.length_map, List.length_append, List.length_cons, List.length_nil, List.length_set, List.length_range, sizeLine_eq]; omega)) only [↓wM_bd, ↓wM_pr, ↓wM_opt, ↓wM_C, ↓wM_var, ↓wM_look_fz, ↓wM_look_ow, ↓wM_look_nm, ↓wM_frz_fz, ↓wM_frz_ow, ↓wM_frz_nm, ↓wM_op2, ↓wM_op2T, ↓wO_gB, ↓wM_op1, ↓wM_nil, ↓wM_cons, ↓wM_frzA0, ↓wM_frzA, ↓wM_lookA0, ↓wM_lookA, ↓wM_tup, ↓wM_lst, ↓wM_B, ↓wM_isi, ↓wM_me, ↓wM_sl, ↓wM_noP, ↓wM_part, ↓wM_key, ↓wM_call, ↓wM_argSA0, ↓wM_argSA, ↓wM_argS_fz, ↓wM_argS_ow, ↓wM_argS_nm, ↓wM_mut, ↓wM_yes, ↓wM_rng1, ↓wM_rng2, ↓wM_wkV, ↓wM_wkT, ↓wM_wkL, ↓wM_wk2, ↓wM_wkB, ↓wM_wkC, ↓wM_wkS, ↓wM_wk1, ↓wM_wkLc, ↓wM_wkIf, ↓wM_wkLR, ↓wM_rng3, ↓wM_zip, ↓wM_rga1, ↓wM_rga2, ↓wM_lrg, ↓wM_trg, ↓wM_not, ↓wM_tru, ↓wM_and, ↓wM_or, ↓wM_andV, ↓wM_orV, ↓wM_notV, ↓wM_ifE, ↓wM_chain, ↓wM_chainT, ↓wM_dispN, ↓wM_pairs0, ↓wM_pairs, ↓wM_new, ↓wO_gsC, ↓wS_seq, ↓wS_pass, ↓wS_brk, ↓wS_cnt, ↓wS_ret, ↓wS_drop, ↓wS_if, ↓wS_set, ↓wS_asg, ↓wS_par, ↓wS_put, ↓wS_augS, ↓wS_aug, ↓wM_run', wO_some, varK_fz, varK_ow, varK_lk, lookK_fz, lookK_ow, lookK_lk, frzK_fz, frzK_ow, frzK_lk, argK_fz, argK_owt, argK_owf, argK_lkt, argK_lkf, mutK_ow', mutO_ow, putK'_ow, getK_ow, fzO_fz, augK_fz, intD_int, retK_fz, retK_ow, retK_nm, retO_fz, retO_ow, retO_lk, setR_fz, setR_ow, setR_nm, setK_fz, setK_ow, setK_lk, tru_b, tru_n, tru_l, tru_t, key_i, key_s, gIAdd_ii, gISub_ii, gPow_18, gN_ok, gsN_ok, gT_ok, setQs_nil, setQs_fz, setQs_ow, outP_t, outP_f, outP_n, wkO_fz, wkO_ow, wkO_lk, wk_fz, wk_ow, wk_nm, items_l, items_t, unl_none, unl_some, unlK_lk, callK_R, callR_fz, callR_ow, rest_nil, rest_cons, restK_some, wipe_nil, wipe_cons, gAdd_ii, gSub_ii, gMul_l, gMul_r, gDiv_ii, gMod_ii, gNeg_i, gEq_ii, gEq_ss, gEq_bb, gNe_ii, gNe_ss, gLt_ii, gLe_ii, gGt_ii, gGe_ii, gIx_l0, gIx_t0, gIx_l1, gIx_t1, gIx_l2, gIx_t2, gIx_t3, gIx_tz, gRev_l, gRev_t, zipD_ll, zipD_tl, zipD_lt, zipD_tt, int1_ok, int2_ok, gLen_l, gLen_t, gLen_d, gAbs_i, gAppend_l, gExtend_l, gInt_i, gTuple_l, gTuple_t, gList_l, gList_t, gMax_ii, gMin_ii, gSum_l, gIs_none, isLst, isT, isOw, List.getElem?_cons_zero, List.getElem?_cons_succ, List.length_cons, List.length_nil, List.cons_append, List.nil_append, List.replicate, List.set_cons_zero, List.set_cons_succ, true_and, and_true, if_true, List.map_cons, List.map_nil, Nat.reduceAdd, Nat.reduceSub, Nat.reduceLT, Nat.reduceLeDiff, List.length_set, List.length_map, List.length_append, List.length_range, reduceIte, reduceDIte, Bool.false_eq_true, slotOf, wb, Option.getD_some, nmOk, heldR, List.all_cons, List.all_nil, List.any_cons, List.any_nil, isNm, Bool.and_true, Bool.true_and, Bool.false_and, Bool.and_false, Bool.not_false, Bool.not_true, Bool.or_false, e1, e2, e3]
    exact ⟨_, rfl⟩
  clear s8
  rintro ρ ⟨s8, rfl⟩
  -- the least table
  obtain ⟨x0, r, hr⟩ := List.exists_cons_of_ne_nil h1.ne
  have hrl : r.length ≤ 5 := by rw [hr] at l1; simp at l1; omega
  have g0 : gIx (.tuple (one.map encP)) (.int 0) = some (.fz (encP x0)) := by rw [hr]; exact gIx_t0
  have hdr : (one.map encP).drop 1 = r.map encP := by rw [hr]; rfl
  have hlt : lt one = r.foldl ltS [x0] := by rw [hr]; rfl
  simp (disch := first | omega | (simp only [List.length_map, List.length_append, List.length_cons, List.length_nil, List.length_set, List.length_range, sizeLine_eq]; done) | (simp only [List.length_map, List.length_append, List.length_cons, List.length_nil, List.length_set, List.length_range, sizeLine_eq]; omega)) only [↓wM_bd, ↓wM_pr, ↓wM_opt, ↓wM_C, ↓wM_var, ↓wM_look_fz, ↓wM_look_ow, ↓wM_look_nm, ↓wM_frz_fz, ↓wM_frz_ow, ↓wM_frz_nm, ↓wM_op2, ↓wM_op2T, ↓wO_gB, ↓wM_op1, ↓wM_nil, ↓wM_cons, ↓wM_frzA0, ↓wM_frzA, ↓wM_lookA0, ↓wM_lookA, ↓wM_tup, ↓wM_lst, ↓wM_B, ↓wM_isi, ↓wM_me, ↓wM_sl, ↓wM_noP, ↓wM_part, ↓wM_key, ↓wM_call, ↓wM_argSA0, ↓wM_argSA, ↓wM_argS_fz, ↓wM_argS_ow, ↓wM_argS_nm, ↓wM_mut, ↓wM_yes, ↓wM_rng1, ↓wM_rng2, ↓wM_wkV, ↓wM_wkT, ↓wM_wkL, ↓wM_wk2, ↓wM_wkB, ↓wM_wkC, ↓wM_wkS, ↓wM_wk1, ↓wM_wkLc, ↓wM_wkIf, ↓wM_wkLR, ↓wM_rng3, ↓wM_zip, ↓wM_rga1, ↓wM_rga2, ↓wM_lrg, ↓wM_trg, ↓wM_not, ↓wM_tru, ↓wM_and, ↓wM_or, ↓wM_andV, ↓wM_orV, ↓wM_notV, ↓wM_ifE, ↓wM_chain, ↓wM_chainT, ↓wM_dispN, ↓wM_pairs0, ↓wM_pairs, ↓wM_new, ↓wO_gsC, ↓wS_seq, ↓wS_pass, ↓wS_brk, ↓wS_cnt, ↓wS_ret, ↓wS_drop, ↓wS_if, ↓wS_set, ↓wS_asg, ↓wS_par, ↓wS_put, ↓wS_augS, ↓wS_aug, ↓wM_run', wO_some, varK_fz, varK_ow, varK_lk, lookK_fz, lookK_ow, lookK_lk, frzK_fz, frzK_ow, frzK_lk, argK_fz, argK_owt, argK_owf, argK_lkt, argK_lkf, mutK_ow', mutO_ow, putK'_ow, getK_ow, fzO_fz, augK_fz, intD_int, retK_fz, retK_ow, retK_nm, retO_fz, retO_ow, retO_lk, setR_fz, setR_ow, setR_nm, setK_fz, setK_ow, setK_lk, tru_b, tru_n, tru_l, tru_t, key_i, key_s, gIAdd_ii, gISub_ii, gPow_18, gN_ok, gsN_ok, gT_ok, setQs_nil, setQs_fz, setQs_ow, outP_t, outP_f, outP_n, wkO_fz, wkO_ow, wkO_lk, wk_fz, wk_ow, wk_nm, items_l, items_t, unl_none, unl_some, unlK_lk, callK_R, callR_fz, callR_ow, rest_nil, rest_cons, restK_some, wipe_nil, wipe_cons, gAdd_ii, gSub_ii, gMul_l, gMul_r, gDiv_ii, gMod_ii, gNeg_i, gEq_ii, gEq_ss, gEq_bb, gNe_ii, gNe_ss, gLt_ii, gLe_ii, gGt_ii, gGe_ii, gIx_l0, gIx_t0, gIx_l1, gIx_t1, gIx_l2, gIx_t2, gIx_t3, gIx_tz, gRev_l, gRev_t, zipD_ll, zipD_tl, zipD_lt, zipD_tt, int1_ok, int2_ok, gLen_l, gLen_t, gLen_d, gAbs_i, gAppend_l, gExtend_l, gInt_i, gTuple_l, gTuple_t, gList_l, gList_t, gMax_ii, gMin_ii, gSum_l, gIs_none, isLst, isT, isOw, List.getElem?_cons_zero, List.getElem?_cons_succ, List.length_cons, List.length_nil, List.cons_append, List.nil_append, List.replicate, List.set_cons_zero, List.set_cons_succ, true_and, and_true, if_true, List.map_cons, List.map_nil, Nat.reduceAdd, Nat.reduceSub, Nat.reduceLT, Nat.reduceLeDiff, List.length_set, List.length_map, List.length_append, List.length_range, reduceIte, reduceDIte, Bool.false_eq_true, slotOf, wb, Option.getD_some, nmOk, heldR, List.all_cons, List.all_nil, List.any_cons, List.any_nil, isNm, Bool.and_true, Bool.true_and, Bool.false_and, Bool.and_false, Bool.not_false, Bool.not_true, Bool.or_false, g0]
  refine wS_forI (ds := r.map encP) (l := none) (by
      simp (disch := first | omega | (simp only [List.length_map, List.length_append, List.length_cons, List.length_nil, List.length_set, List.length_range, sizeLine_eq]; done) | (simp only [List.length_map, List.length_append, List.length_cons, List.length_nil, List.length_set, List.length_range, sizeLine_eq]; omega)) only [↓wM_bd, ↓wM_pr, ↓wM_opt, ↓wM_C, ↓wM_var, ↓wM_look_fz, ↓wM_look_ow, ↓wM_look_nm, ↓wM_frz_fz, ↓wM_frz_ow, ↓wM_frz_nm, ↓wM_op2, ↓wM_op2T, ↓wO_gB, ↓wM_op1, ↓wM_nil, ↓wM_cons, ↓wM_frzA0, ↓wM_frzA, ↓wM_lookA0, ↓wM_lookA, ↓wM_tup, ↓wM_lst, ↓wM_B, ↓wM_isi, ↓wM_me, ↓wM_sl, ↓wM_noP, ↓wM_part, ↓wM_key, ↓wM_call, ↓wM_argSA0, ↓wM_argSA, ↓wM_argS_fz, ↓wM_argS_ow, ↓wM_argS_nm, ↓wM_mut, ↓wM_yes, ↓wM_rng1, ↓wM_rng2, ↓wM_wkV, ↓wM_wkT, ↓wM_wkL, ↓wM_wk2, ↓wM_wkB, ↓wM_wkC, ↓wM_wkS, ↓wM_wk1, ↓wM_wkLc, ↓wM_wkIf, ↓wM_wkLR, ↓wM_rng3, ↓wM_zip, ↓wM_rga1, ↓wM_rga2, ↓wM_lrg, ↓wM_trg, ↓wM_not, ↓wM_tru, ↓wM_and, ↓wM_or, ↓wM_andV, ↓wM_orV, ↓wM_notV, ↓wM_ifE, ↓wM_chain, ↓wM_chainT, ↓wM_dispN, ↓wM_pairs0, ↓wM_pairs, ↓wM_new, ↓wO_gsC, ↓wS_seq, ↓wS_pass, ↓wS_brk, ↓wS_cnt, ↓wS_ret, ↓wS_drop, ↓wS_if, ↓wS_set, ↓wS_asg, ↓wS_par, ↓wS_put, ↓wS_augS, ↓wS_aug, ↓wM_run', wO_some, varK_fz, varK_ow, varK_lk, lookK_fz, lookK_ow, lookK_lk, frzK_fz, frzK_ow, frzK_lk, argK_fz, argK_owt, argK_owf, argK_lkt, argK_lkf, mutK_ow', mutO_ow, putK'_ow, getK_ow, fzO_fz, augK_fz, intD_int, retK_fz, retK_ow, retK_nm, retO_fz, retO_ow, retO_lk, setR_fz, setR_ow, setR_nm, setK_fz, setK_ow, setK_lk, tru_b, tru_n, tru_l, tru_t, key_i, key_s, gIAdd_ii, gISub_ii, gPow_18, gN_ok, gsN_ok, gT_ok, setQs_nil, setQs_fz, setQs_ow, outP_t, outP_f, outP_n, wkO_fz, wkO_ow, wkO_lk, wk_fz, wk_ow, wk_nm, items_l, items_t, unl_none, unl_some, unlK_lk, callK_R, callR_fz, callR_ow, rest_nil, rest_cons, restK_some, wipe_nil, wipe_cons, gAdd_ii, gSub_ii, gMul_l, gMul_r, gDiv_ii, gMod_ii, gNeg_i, gEq_ii, gEq_ss, gEq_bb, gNe_ii, gNe_ss, gLt_ii, gLe_ii, gGt_ii, gGe_ii, gIx_l0, gIx_t0, gIx_l1, gIx_t1, gIx_l2, gIx_t2, gIx_t3, gIx_tz, gRev_l, gRev_t, zipD_ll, zipD_tl, zipD_lt, zipD_tt, int1_ok, int2_ok, gLen_l, gLen_t, gLen_d, gAbs_i, gAppend_l, gExtend_l, gInt_i, gTuple_l, gTuple_t, gList_l, gList_t, gMax_ii, gMin_ii, gSum_l, gIs_none, isLst, isT, isOw, List.getElem?_cons_zero, List.getElem?_cons_succ, List.length_cons, List.length_nil, List.cons_append, List.nil_append, List.replicate, List.set_cons_zero, List.set_cons_succ, true_and, and_true, if_true, List.map_cons, List.map_nil, Nat.reduceAdd, Nat.reduceSub, Nat.reduceLT, Nat.reduceLeDiff, List.length_set, List.length_map, List.length_append, List.length_range, reduceIte, reduceDIte, Bool.false_eq_true, slotOf, wb, Option.getD_some, nmOk, heldR, List.all_cons, List.all_nil, List.any_cons, List.any_nil, isNm, Bool.and_true, Bool.true_and, Bool.false_and, Bool.and_false, Bool.not_false, Bool.not_true, Bool.or_false, gSl_t, cutD_d1, hdr]
      all_goals first | exact ⟨rfl, rfl⟩ | rfl) (fun j ρ => ∃ (s6 s7 : Sl), ρ = [.fz sc, .ow (Wd ds (i2 + 1 + 1 + 1 : Nat)), .fz d, .fz (.tuple (one.map encP)), .fz (.tuple (other.map encP)), .fz (.int (k : Nat)), s6, s7, s8, .ow (.list (((r.take j).foldl ltS [x0]).map encP)), s10, s11, s12, s13, s14]) ⟨_, _, rfl⟩ ?_ ?_
  · clear s6 s7
    rintro j d' ρ hd' ⟨s6, s7, rfl⟩
    obtain ⟨hj, rfl⟩ := at_map hd'
    have htk : r.take (j + 1) = r.take j ++ [r[j]] := List.take_succ_eq_append_getElem hj
    rw [htk, List.foldl_append, List.foldl_cons, List.foldl_nil]
    have hfl : ((r.take j).foldl ltS [x0]).length ≤ 20 := Nat.le_trans (foldl_len _ _) (by rw [List.length_take]; simp; omega)
    have hne : (r.take j).foldl ltS [x0] ≠ [] := foldl_ne _ _ (by simp)
    generalize (r.take j).foldl ltS [x0] = fo at hfl hne
    generalize r[j] = t
    rw [show encP t = .tuple [.int t.1, .int t.2] from rfl]
    obtain ⟨ini, y, e⟩ : ∃ ini y, fo = ini ++ [y] := by
      rcases List.eq_nil_or_concat fo with e | ⟨ini, y, e⟩
      · exact absurd e hne
      · exact ⟨ini, y, by rw [e, List.concat_eq_append]⟩
    subst e
    have hfl2 : ini.length ≤ 20 := by simp at hfl; omega
    have hS : ltS (ini ++ [y]) t = if y.2 = t.2 then ini ++ [y] else ini ++ [y] ++ [t] := by
      unfold ltS; rw [List.getLast?_append]; rfl
    rw [hS]
    by_cases hc : t.2 = y.2
    · rw [if_pos hc.symm]
      simp (disch := first | omega | (simp only [List.length_map, List.length_append, List.length_cons, List.length_nil, List.length_set, List.length_range, sizeLine_eq]; done) | (simp only [List.length_map, List.length_append, List.length_cons, List.length_nil, List.length_set, List.length_range, sizeLine_eq]; omega)) only [↓wM_bd, ↓wM_pr, ↓wM_opt, ↓wM_C, ↓wM_var, ↓wM_look_fz, ↓wM_look_ow, ↓wM_look_nm, ↓wM_frz_fz, ↓wM_frz_ow, ↓wM_frz_nm, ↓wM_op2, ↓wM_op2T, ↓wO_gB, ↓wM_op1, ↓wM_nil, ↓wM_cons, ↓wM_frzA0, ↓wM_frzA, ↓wM_lookA0, ↓wM_lookA, ↓wM_tup, ↓wM_lst, ↓wM_B, ↓wM_isi, ↓wM_me, ↓wM_sl, ↓wM_noP, ↓wM_part, ↓wM_key, ↓wM_call, ↓wM_argSA0, ↓wM_argSA, ↓wM_argS_fz, ↓wM_argS_ow, ↓wM_argS_nm, ↓wM_mut, ↓wM_yes, ↓wM_rng1, ↓wM_rng2, ↓wM_wkV, ↓wM_wkT, ↓wM_wkL, ↓wM_wk2, ↓wM_wkB, ↓wM_wkC, ↓wM_wkS, ↓wM_wk1, ↓wM_wkLc, ↓wM_wkIf, ↓wM_wkLR, ↓wM_rng3, ↓wM_zip, ↓wM_rga1, ↓wM_rga2, ↓wM_lrg, ↓wM_trg, ↓wM_not, ↓wM_tru, ↓wM_and, ↓wM_or, ↓wM_andV, ↓wM_orV, ↓wM_notV, ↓wM_ifE, ↓wM_chain, ↓wM_chainT, ↓wM_dispN, ↓wM_pairs0, ↓wM_pairs, ↓wM_new, ↓wO_gsC, ↓wS_seq, ↓wS_pass, ↓wS_brk, ↓wS_cnt, ↓wS_ret, ↓wS_drop, ↓wS_if, ↓wS_set, ↓wS_asg, ↓wS_par, ↓wS_put, ↓wS_augS, ↓wS_aug, ↓wM_run', wO_some, varK_fz, varK_ow, varK_lk, lookK_fz, lookK_ow, lookK_lk, frzK_fz, frzK_ow, frzK_lk, argK_fz, argK_owt, argK_owf, argK_lkt, argK_lkf, mutK_ow', mutO_ow, putK'_ow, getK_ow, fzO_fz, augK_fz, intD_int, retK_fz, retK_ow, retK_nm, retO_fz, retO_ow, retO_lk, setR_fz, setR_ow, setR_nm, setK_fz, setK_ow, setK_lk, tru_b, tru_n, tru_l, tru_t, key_i, key_s, gIAdd_ii, gISub_ii, gPow_18, gN_ok, gsN_ok, gT_ok, setQs_nil, setQs_fz, setQs_ow, outP_t, outP_f, outP_n, wkO_fz, wkO_ow, wkO_lk, wk_fz, wk_ow, wk_nm, items_l, items_t, unl_none, unl_some, unlK_lk, callK_R, callR_fz, callR_ow, rest_nil, rest_cons, restK_some, wipe_nil, wipe_cons, gAdd_ii, gSub_ii, gMul_l, gMul_r, gDiv_ii, gMod_ii, gNeg_i, gEq_ii, gEq_ss, gEq_bb, gNe_ii, gNe_ss, gLt_ii, gLe_ii, gGt_ii, gGe_ii, gIx_l0, gIx_t0, gIx_l1, gIx_t1, gIx_l2, gIx_t2, gIx_t3, gIx_tz, gRev_l, gRev_t, zipD_ll, zipD_tl, zipD_lt, zipD_tt, int1_ok, int2_ok, gLen_l, gLen_t, gLen_d, gAbs_i, gAppend_l, gExtend_l, gInt_i, gTuple_l, gTuple_t, gList_l, gList_t, gMax_ii, gMin_ii, gSum_l, gIs_none, isLst, isT, isOw, List.getElem?_cons_zero, List.getElem?_cons_succ, List.length_cons, List.length_nil, List.cons_append, List.nil_append, List.replicate, List.set_cons_zero, List.set_cons_succ, true_and, and_true, if_true, List.map_cons, List.map_nil, Nat.reduceAdd, Nat.reduceSub, Nat.reduceLT, Nat.reduceLeDiff, List.length_set, List.length_map, List.length_append, List.length_range, reduceIte, reduceDIte, Bool.false_eq_true, slotOf, wb, Option.getD_some, nmOk, heldR, List.all_cons, List.all_nil, List.any_cons, List.any_nil, isNm, Bool.and_true, Bool.true_and, Bool.false_and, Bool.and_false, Bool.not_false, Bool.not_true, Bool.or_false, List.map_append, gIx_lz, Int.reduceNeg, gx1, hc, decide_true, gAdd_ll, List.append_nil]
      exact ⟨_, _, rfl⟩
    · rw [if_neg fun z => hc z.symm]
      simp (disch := first | omega | (simp only [List.length_map, List.length_append, List.length_cons, List.length_nil, List.length_set, List.length_range, sizeLine_eq]; done) | (simp only [List.length_map, List.length_append, List.length_cons, List.length_nil, List.length_set, List.length_range, sizeLine_eq]; omega)) only [↓wM_bd, ↓wM_pr, ↓wM_opt, ↓wM_C, ↓wM_var, ↓wM_look_fz, ↓wM_look_ow, ↓wM_look_nm, ↓wM_frz_fz, ↓wM_frz_ow, ↓wM_frz_nm, ↓wM_op2, ↓wM_op2T, ↓wO_gB, ↓wM_op1, ↓wM_nil, ↓wM_cons, ↓wM_frzA0, ↓wM_frzA, ↓wM_lookA0, ↓wM_lookA, ↓wM_tup, ↓wM_lst, ↓wM_B, ↓wM_isi, ↓wM_me, ↓wM_sl, ↓wM_noP, ↓wM_part, ↓wM_key, ↓wM_call, ↓wM_argSA0, ↓wM_argSA, ↓wM_argS_fz, ↓wM_argS_ow, ↓wM_argS_nm, ↓wM_mut, ↓wM_yes, ↓wM_rng1, ↓wM_rng2, ↓wM_wkV, ↓wM_wkT, ↓wM_wkL, ↓wM_wk2, ↓wM_wkB, ↓wM_wkC, ↓wM_wkS, ↓wM_wk1, ↓wM_wkLc, ↓wM_wkIf, ↓wM_wkLR, ↓wM_rng3, ↓wM_zip, ↓wM_rga1, ↓wM_rga2, ↓wM_lrg, ↓wM_trg, ↓wM_not, ↓wM_tru, ↓wM_and, ↓wM_or, ↓wM_andV, ↓wM_orV, ↓wM_notV, ↓wM_ifE, ↓wM_chain, ↓wM_chainT, ↓wM_dispN, ↓wM_pairs0, ↓wM_pairs, ↓wM_new, ↓wO_gsC, ↓wS_seq, ↓wS_pass, ↓wS_brk, ↓wS_cnt, ↓wS_ret, ↓wS_drop, ↓wS_if, ↓wS_set, ↓wS_asg, ↓wS_par, ↓wS_put, ↓wS_augS, ↓wS_aug, ↓wM_run', wO_some, varK_fz, varK_ow, varK_lk, lookK_fz, lookK_ow, lookK_lk, frzK_fz, frzK_ow, frzK_lk, argK_fz, argK_owt, argK_owf, argK_lkt, argK_lkf, mutK_ow', mutO_ow, putK'_ow, getK_ow, fzO_fz, augK_fz, intD_int, retK_fz, retK_ow, retK_nm, retO_fz, retO_ow, retO_lk, setR_fz, setR_ow, setR_nm, setK_fz, setK_ow, setK_lk, tru_b, tru_n, tru_l, tru_t, key_i, key_s, gIAdd_ii, gISub_ii, gPow_18, gN_ok, gsN_ok, gT_ok, setQs_nil, setQs_fz, setQs_ow, outP_t, outP_f, outP_n, wkO_fz, wkO_ow, wkO_lk, wk_fz, wk_ow, wk_nm, items_l, items_t, unl_none, unl_some, unlK_lk, callK_R, callR_fz, callR_ow, rest_nil, rest_cons, restK_some, wipe_nil, wipe_cons, gAdd_ii, gSub_ii, gMul_l, gMul_r, gDiv_ii, gMod_ii, gNeg_i, gEq_ii, gEq_ss, gEq_bb, gNe_ii, gNe_ss, gLt_ii, gLe_ii, gGt_ii, gGe_ii, gIx_l0, gIx_t0, gIx_l1, gIx_t1, gIx_l2, gIx_t2, gIx_t3, gIx_tz, gRev_l, gRev_t, zipD_ll, zipD_tl, zipD_lt, zipD_tt, int1_ok, int2_ok, gLen_l, gLen_t, gLen_d, gAbs_i, gAppend_l, gExtend_l, gInt_i, gTuple_l, gTuple_t, gList_l, gList_t, gMax_ii, gMin_ii, gSum_l, gIs_none, isLst, isT, isOw, List.getElem?_cons_zero, List.getElem?_cons_succ, List.length_cons, List.length_nil, List.cons_append, List.nil_append, List.replicate, List.set_cons_zero, List.set_cons_succ, true_and, and_true, if_true, List.map_cons, List.map_nil, Nat.reduceAdd, Nat.reduceSub, Nat.reduceLT, Nat.reduceLeDiff, List.length_set, List.length_map, List.length_append, List.length_range, reduceIte, reduceDIte, Bool.false_eq_true, slotOf, wb, Option.getD_some, nmOk, heldR, List.all_cons, List.all_nil, List.any_cons, List.any_nil, isNm, Bool.and_true, Bool.true_and, Bool.false_and, Bool.and_false, Bool.not_false, Bool.not_true, Bool.or_false, List.map_append, gIx_lz, Int.reduceNeg, gx1, hc, decide_false, gAdd_ll]
      exact ⟨_, _, by rfl⟩
  clear s6 s7
  rintro ρ ⟨s6, s7, rfl⟩
  rw [List.length_map, List.take_length, ← hlt]
  have e1 := leasttable_ok one (by omega)
  have hll : (lt one).length ≤ 20 := (lt_Tb h1).len
  have e2 := alike_ok 6 _ (okP (L := lt one) (by omega))
  simp (disch := first | omega | (simp only [List.length_map, List.length_append, List.length_cons, List.length_nil, List.length_set, List.length_range, sizeLine_eq]; done) | (simp only [List.length_map, List.length_append, List.length_cons, List.length_nil, List.length_set, List.length_range, sizeLine_eq]; omega)) only [↓wM_bd, ↓wM_pr, ↓wM_opt, ↓wM_C, ↓wM_var, ↓wM_look_fz, ↓wM_look_ow, ↓wM_look_nm, ↓wM_frz_fz, ↓wM_frz_ow, ↓wM_frz_nm, ↓wM_op2, ↓wM_op2T, ↓wO_gB, ↓wM_op1, ↓wM_nil, ↓wM_cons, ↓wM_frzA0, ↓wM_frzA, ↓wM_lookA0, ↓wM_lookA, ↓wM_tup, ↓wM_lst, ↓wM_B, ↓wM_isi, ↓wM_me, ↓wM_sl, ↓wM_noP, ↓wM_part, ↓wM_key, ↓wM_call, ↓wM_argSA0, ↓wM_argSA, ↓wM_argS_fz, ↓wM_argS_ow, ↓wM_argS_nm, ↓wM_mut, ↓wM_yes, ↓wM_rng1, ↓wM_rng2, ↓wM_wkV, ↓wM_wkT, ↓wM_wkL, ↓wM_wk2, ↓wM_wkB, ↓wM_wkC, ↓wM_wkS, ↓wM_wk1, ↓wM_wkLc, ↓wM_wkIf, ↓wM_wkLR, ↓wM_rng3, ↓wM_zip, ↓wM_rga1, ↓wM_rga2, ↓wM_lrg, ↓wM_trg, ↓wM_not, ↓wM_tru, ↓wM_and, ↓wM_or, ↓wM_andV, ↓wM_orV, ↓wM_notV, ↓wM_ifE, ↓wM_chain, ↓wM_chainT, ↓wM_dispN, ↓wM_pairs0, ↓wM_pairs, ↓wM_new, ↓wO_gsC, ↓wS_seq, ↓wS_pass, ↓wS_brk, ↓wS_cnt, ↓wS_ret, ↓wS_drop, ↓wS_if, ↓wS_set, ↓wS_asg, ↓wS_par, ↓wS_put, ↓wS_augS, ↓wS_aug, ↓wM_run', wO_some, varK_fz, varK_ow, varK_lk, lookK_fz, lookK_ow, lookK_lk, frzK_fz, frzK_ow, frzK_lk, argK_fz, argK_owt, argK_owf, argK_lkt, argK_lkf, mutK_ow', mutO_ow, putK'_ow, getK_ow, fzO_fz, augK_fz, intD_int, retK_fz, retK_ow, retK_nm, retO_fz, retO_ow, retO_lk, setR_fz, setR_ow, setR_nm, setK_fz, setK_ow, setK_lk, tru_b, tru_n, tru_l, tru_t, key_i, key_s, gIAdd_ii, gISub_ii, gPow_18, gN_ok, gsN_ok, gT_ok, setQs_nil, setQs_fz, setQs_ow, outP_t, outP_f, outP_n, wkO_fz, wkO_ow, wkO_lk, wk_fz, wk_ow, wk_nm, items_l, items_t, unl_none, unl_some, unlK_lk, callK_R, callR_fz, callR_ow, rest_nil, rest_cons, restK_some, wipe_nil, wipe_cons, gAdd_ii, gSub_ii, gMul_l, gMul_r, gDiv_ii, gMod_ii, gNeg_i, gEq_ii, gEq_ss, gEq_bb, gNe_ii, gNe_ss, gLt_ii, gLe_ii, gGt_ii, gGe_ii, gIx_l0, gIx_t0, gIx_l1, gIx_t1, gIx_l2, gIx_t2, gIx_t3, gIx_tz, gRev_l, gRev_t, zipD_ll, zipD_tl, zipD_lt, zipD_tt, int1_ok, int2_ok, gLen_l, gLen_t, gLen_d, gAbs_i, gAppend_l, gExtend_l, gInt_i, gTuple_l, gTuple_t, gList_l, gList_t, gMax_ii, gMin_ii, gSum_l, gIs_none, isLst, isT, isOw, List.getElem?_cons_zero, List.getElem?_cons_succ, List.length_cons, List.length_nil, List.cons_append, List.nil_append, List.replicate, List.set_cons_zero, List.set_cons_succ, true_and, and_true, if_true, List.map_cons, List.map_nil, Nat.reduceAdd, Nat.reduceSub, Nat.reduceLT, Nat.reduceLeDiff, List.length_set, List.length_map, List.length_append, List.length_range, reduceIte, reduceDIte, Bool.false_eq_true, slotOf, wb, Option.getD_some, nmOk, heldR, List.all_cons, List.all_nil, List.any_cons, List.any_nil, isNm, Bool.and_true, Bool.true_and, Bool.false_and, Bool.and_false, Bool.not_false, Bool.not_true, Bool.or_false, e1, e2]
  -- where they differ
  refine wM_lcM (enc := fun n : Nat => .int (n : Nat)) (xs := List.range 90) (l := none) (by simp (disch := first | omega | (simp only [List.length_map, List.length_append, List.length_cons, List.length_nil, List.length_set, List.length_range, sizeLine_eq]; done) | (simp only [List.length_map, List.length_append, List.length_cons, List.length_nil, List.length_set, List.length_range, sizeLine_eq]; omega)) only [↓wM_bd, ↓wM_pr, ↓wM_opt, ↓wM_C, ↓wM_var, ↓wM_look_fz, ↓wM_look_ow, ↓wM_look_nm, ↓wM_frz_fz, ↓wM_frz_ow, ↓wM_frz_nm, ↓wM_op2, ↓wM_op2T, ↓wO_gB, ↓wM_op1, ↓wM_nil, ↓wM_cons, ↓wM_frzA0, ↓wM_frzA, ↓wM_lookA0, ↓wM_lookA, ↓wM_tup, ↓wM_lst, ↓wM_B, ↓wM_isi, ↓wM_me, ↓wM_sl, ↓wM_noP, ↓wM_part, ↓wM_key, ↓wM_call, ↓wM_argSA0, ↓wM_argSA, ↓wM_argS_fz, ↓wM_argS_ow, ↓wM_argS_nm, ↓wM_mut, ↓wM_yes, ↓wM_rng1, ↓wM_rng2, ↓wM_wkV, ↓wM_wkT, ↓wM_wkL, ↓wM_wk2, ↓wM_wkB, ↓wM_wkC, ↓wM_wkS, ↓wM_wk1, ↓wM_wkLc, ↓wM_wkIf, ↓wM_wkLR, ↓wM_rng3, ↓wM_zip, ↓wM_rga1, ↓wM_rga2, ↓wM_lrg, ↓wM_trg, ↓wM_not, ↓wM_tru, ↓wM_and, ↓wM_or, ↓wM_andV, ↓wM_orV, ↓wM_notV, ↓wM_ifE, ↓wM_chain, ↓wM_chainT, ↓wM_dispN, ↓wM_pairs0, ↓wM_pairs, ↓wM_new, ↓wO_gsC, ↓wS_seq, ↓wS_pass, ↓wS_brk, ↓wS_cnt, ↓wS_ret, ↓wS_drop, ↓wS_if, ↓wS_set, ↓wS_asg, ↓wS_par, ↓wS_put, ↓wS_augS, ↓wS_aug, ↓wM_run', wO_some, varK_fz, varK_ow, varK_lk, lookK_fz, lookK_ow, lookK_lk, frzK_fz, frzK_ow, frzK_lk, argK_fz, argK_owt, argK_owf, argK_lkt, argK_lkf, mutK_ow', mutO_ow, putK'_ow, getK_ow, fzO_fz, augK_fz, intD_int, retK_fz, retK_ow, retK_nm, retO_fz, retO_ow, retO_lk, setR_fz, setR_ow, setR_nm, setK_fz, setK_ow, setK_lk, tru_b, tru_n, tru_l, tru_t, key_i, key_s, gIAdd_ii, gISub_ii, gPow_18, gN_ok, gsN_ok, gT_ok, setQs_nil, setQs_fz, setQs_ow, outP_t, outP_f, outP_n, wkO_fz, wkO_ow, wkO_lk, wk_fz, wk_ow, wk_nm, items_l, items_t, unl_none, unl_some, unlK_lk, callK_R, callR_fz, callR_ow, rest_nil, rest_cons, restK_some, wipe_nil, wipe_cons, gAdd_ii, gSub_ii, gMul_l, gMul_r, gDiv_ii, gMod_ii, gNeg_i, gEq_ii, gEq_ss, gEq_bb, gNe_ii, gNe_ss, gLt_ii, gLe_ii, gGt_ii, gGe_ii, gIx_l0, gIx_t0, gIx_l1, gIx_t1, gIx_l2, gIx_t2, gIx_t3, gIx_tz, gRev_l, gRev_t, zipD_ll, zipD_tl, zipD_lt, zipD_tt, int1_ok, int2_ok, gLen_l, gLen_t, gLen_d, gAbs_i, gAppend_l, gExtend_l, gInt_i, gTuple_l, gTuple_t, gList_l, gList_t, gMax_ii, gMin_ii, gSum_l, gIs_none, isLst, isT, isOw, List.getElem?_cons_zero, List.getElem?_cons_succ, List.length_cons, List.length_nil, List.cons_append, List.nil_append, List.replicate, List.set_cons_zero, List.set_cons_succ, true_and, and_true, if_true, List.map_cons, List.map_nil, Nat.reduceAdd, Nat.reduceSub, Nat.reduceLT, Nat.reduceLeDiff, List.length_set, List.length_map, List.length_append, List.length_range, reduceIte, reduceDIte, Bool.false_eq_true, slotOf, wb, Option.getD_some, nmOk, heldR, List.all_cons, List.all_nil, List.any_cons, List.any_nil, isNm, Bool.and_true, Bool.true_and, Bool.false_and, Bool.and_false, Bool.not_false, Bool.not_true, Bool.or_false, rng1_ok, rng2_ok] <;> (first | exact ⟨rfl, rfl⟩ | exact rfl)) (fun n : Nat => decide (ra one n ≠ ra other n)) (fun n : Nat => .int ((n : Nat) + 1)) (by rw [List.length_range, sizeLine_eq]; omega) (fun n _ => ?_) ?_
  · have e3 := lrate_ok one n h1 (by omega)
    have e4 := lrate_ok other n to.ok (by omega)
    simp (disch := first | omega | (simp only [List.length_map, List.length_append, List.length_cons, List.length_nil, List.length_set, List.length_range, sizeLine_eq]; done) | (simp only [List.length_map, List.length_append, List.length_cons, List.length_nil, List.length_set, List.length_range, sizeLine_eq]; omega)) only [↓wM_bd, ↓wM_pr, ↓wM_opt, ↓wM_C, ↓wM_var, ↓wM_look_fz, ↓wM_look_ow, ↓wM_look_nm, ↓wM_frz_fz, ↓wM_frz_ow, ↓wM_frz_nm, ↓wM_op2, ↓wM_op2T, ↓wO_gB, ↓wM_op1, ↓wM_nil, ↓wM_cons, ↓wM_frzA0, ↓wM_frzA, ↓wM_lookA0, ↓wM_lookA, ↓wM_tup, ↓wM_lst, ↓wM_B, ↓wM_isi, ↓wM_me, ↓wM_sl, ↓wM_noP, ↓wM_part, ↓wM_key, ↓wM_call, ↓wM_argSA0, ↓wM_argSA, ↓wM_argS_fz, ↓wM_argS_ow, ↓wM_argS_nm, ↓wM_mut, ↓wM_yes, ↓wM_rng1, ↓wM_rng2, ↓wM_wkV, ↓wM_wkT, ↓wM_wkL, ↓wM_wk2, ↓wM_wkB, ↓wM_wkC, ↓wM_wkS, ↓wM_wk1, ↓wM_wkLc, ↓wM_wkIf, ↓wM_wkLR, ↓wM_rng3, ↓wM_zip, ↓wM_rga1, ↓wM_rga2, ↓wM_lrg, ↓wM_trg, ↓wM_not, ↓wM_tru, ↓wM_and, ↓wM_or, ↓wM_andV, ↓wM_orV, ↓wM_notV, ↓wM_ifE, ↓wM_chain, ↓wM_chainT, ↓wM_dispN, ↓wM_pairs0, ↓wM_pairs, ↓wM_new, ↓wO_gsC, ↓wS_seq, ↓wS_pass, ↓wS_brk, ↓wS_cnt, ↓wS_ret, ↓wS_drop, ↓wS_if, ↓wS_set, ↓wS_asg, ↓wS_par, ↓wS_put, ↓wS_augS, ↓wS_aug, ↓wM_run', wO_some, varK_fz, varK_ow, varK_lk, lookK_fz, lookK_ow, lookK_lk, frzK_fz, frzK_ow, frzK_lk, argK_fz, argK_owt, argK_owf, argK_lkt, argK_lkf, mutK_ow', mutO_ow, putK'_ow, getK_ow, fzO_fz, augK_fz, intD_int, retK_fz, retK_ow, retK_nm, retO_fz, retO_ow, retO_lk, setR_fz, setR_ow, setR_nm, setK_fz, setK_ow, setK_lk, tru_b, tru_n, tru_l, tru_t, key_i, key_s, gIAdd_ii, gISub_ii, gPow_18, gN_ok, gsN_ok, gT_ok, setQs_nil, setQs_fz, setQs_ow, outP_t, outP_f, outP_n, wkO_fz, wkO_ow, wkO_lk, wk_fz, wk_ow, wk_nm, items_l, items_t, unl_none, unl_some, unlK_lk, callK_R, callR_fz, callR_ow, rest_nil, rest_cons, restK_some, wipe_nil, wipe_cons, gAdd_ii, gSub_ii, gMul_l, gMul_r, gDiv_ii, gMod_ii, gNeg_i, gEq_ii, gEq_ss, gEq_bb, gNe_ii, gNe_ss, gLt_ii, gLe_ii, gGt_ii, gGe_ii, gIx_l0, gIx_t0, gIx_l1, gIx_t1, gIx_l2, gIx_t2, gIx_t3, gIx_tz, gRev_l, gRev_t, zipD_ll, zipD_tl, zipD_lt, zipD_tt, int1_ok, int2_ok, gLen_l, gLen_t, gLen_d, gAbs_i, gAppend_l, gExtend_l, gInt_i, gTuple_l, gTuple_t, gList_l, gList_t, gMax_ii, gMin_ii, gSum_l, gIs_none, isLst, isT, isOw, List.getElem?_cons_zero, List.getElem?_cons_succ, List.length_cons, List.length_nil, List.cons_append, List.nil_append, List.replicate, List.set_cons_zero, List.set_cons_succ, true_and, and_true, if_true, List.map_cons, List.map_nil, Nat.reduceAdd, Nat.reduceSub, Nat.reduceLT, Nat.reduceLeDiff, List.length_set, List.length_map, List.length_append, List.length_range, reduceIte, reduceDIte, Bool.false_eq_true, slotOf, wb, Option.getD_some, nmOk, heldR, List.all_cons, List.all_nil, List.any_cons, List.any_nil, isNm, Bool.and_true, Bool.true_and, Bool.false_and, Bool.and_false, Bool.not_false, Bool.not_true, Bool.or_false, e3, e4]
    by_cases hc : ra one n = ra other n
    · simp (disch := first | omega | (simp only [List.length_map, List.length_append, List.length_cons, List.length_nil, List.length_set, List.length_range, sizeLine_eq]; done) | (simp only [List.length_map, List.length_append, List.length_cons, List.length_nil, List.length_set, List.length_range, sizeLine_eq]; omega)) only [↓wM_bd, ↓wM_pr, ↓wM_opt, ↓wM_C, ↓wM_var, ↓wM_look_fz, ↓wM_look_ow, ↓wM_look_nm, ↓wM_frz_fz, ↓wM_frz_ow, ↓wM_frz_nm, ↓wM_op2, ↓wM_op2T, ↓wO_gB, ↓wM_op1, ↓wM_nil, ↓wM_cons, ↓wM_frzA0, ↓wM_frzA, ↓wM_lookA0, ↓wM_lookA, ↓wM_tup, ↓wM_lst, ↓wM_B, ↓wM_isi, ↓wM_me, ↓wM_sl, ↓wM_noP, ↓wM_part, ↓wM_key, ↓wM_call, ↓wM_argSA0, ↓wM_argSA, ↓wM_argS_fz, ↓wM_argS_ow, ↓wM_argS_nm, ↓wM_mut, ↓wM_yes, ↓wM_rng1, ↓wM_rng2, ↓wM_wkV, ↓wM_wkT, ↓wM_wkL, ↓wM_wk2, ↓wM_wkB, ↓wM_wkC, ↓wM_wkS, ↓wM_wk1, ↓wM_wkLc, ↓wM_wkIf, ↓wM_wkLR, ↓wM_rng3, ↓wM_zip, ↓wM_rga1, ↓wM_rga2, ↓wM_lrg, ↓wM_trg, ↓wM_not, ↓wM_tru, ↓wM_and, ↓wM_or, ↓wM_andV, ↓wM_orV, ↓wM_notV, ↓wM_ifE, ↓wM_chain, ↓wM_chainT, ↓wM_dispN, ↓wM_pairs0, ↓wM_pairs, ↓wM_new, ↓wO_gsC, ↓wS_seq, ↓wS_pass, ↓wS_brk, ↓wS_cnt, ↓wS_ret, ↓wS_drop, ↓wS_if, ↓wS_set, ↓wS_asg, ↓wS_par, ↓wS_put, ↓wS_augS, ↓wS_aug, ↓wM_run', wO_some, varK_fz, varK_ow, varK_lk, lookK_fz, lookK_ow, lookK_lk, frzK_fz, frzK_ow, frzK_lk, argK_fz, argK_owt, argK_owf, argK_lkt, argK_lkf, mutK_ow', mutO_ow, putK'_ow, getK_ow, fzO_fz, augK_fz, intD_int, retK_fz, retK_ow, retK_nm, retO_fz, retO_ow, retO_lk, setR_fz, setR_ow, setR_nm, setK_fz, setK_ow, setK_lk, tru_b, tru_n, tru_l, tru_t, key_i, key_s, gIAdd_ii, gISub_ii, gPow_18, gN_ok, gsN_ok, gT_ok, setQs_nil, setQs_fz, setQs_ow, outP_t, outP_f, outP_n, wkO_fz, wkO_ow, wkO_lk, wk_fz, wk_ow, wk_nm, items_l, items_t, unl_none, unl_some, unlK_lk, callK_R, callR_fz, callR_ow, rest_nil, rest_cons, restK_some, wipe_nil, wipe_cons, gAdd_ii, gSub_ii, gMul_l, gMul_r, gDiv_ii, gMod_ii, gNeg_i, gEq_ii, gEq_ss, gEq_bb, gNe_ii, gNe_ss, gLt_ii, gLe_ii, gGt_ii, gGe_ii, gIx_l0, gIx_t0, gIx_l1, gIx_t1, gIx_l2, gIx_t2, gIx_t3, gIx_tz, gRev_l, gRev_t, zipD_ll, zipD_tl, zipD_lt, zipD_tt, int1_ok, int2_ok, gLen_l, gLen_t, gLen_d, gAbs_i, gAppend_l, gExtend_l, gInt_i, gTuple_l, gTuple_t, gList_l, gList_t, gMax_ii, gMin_ii, gSum_l, gIs_none, isLst, isT, isOw, List.getElem?_cons_zero, List.getElem?_cons_succ, List.length_cons, List.length_nil, List.cons_append, List.nil_append, List.replicate, List.set_cons_zero, List.set_cons_succ, true_and, and_true, if_true, List.map_cons, List.map_nil, Nat.reduceAdd, Nat.reduceSub, Nat.reduceLT, Nat.reduceLeDiff, List.length_set, List.length_map, List.length_append, List.length_range, reduceIte, reduceDIte, Bool.false_eq_true, slotOf, wb, Option.getD_some, nmOk, heldR, List.all_cons, List.all_nil, List.any_cons, List.any_nil, isNm, Bool.and_true, Bool.true_and, Bool.false_and, Bool.and_false, Bool.not_false, Bool.not_true, Bool.or_false, hc, decide_true, ne_eq, not_true, decide_false]
    · simp (disch := first | omega | (simp only [List.length_map, List.length_append, List.length_cons, List.length_nil, List.length_set, List.length_range, sizeLine_eq]; done) | (simp only [List.length_map, List.length_append, List.length_cons, List.length_nil, List.length_set, List.length_range, sizeLine_eq]; omega)) only [↓wM_bd, ↓wM_pr, ↓wM_opt, ↓wM_C, ↓wM_var, ↓wM_look_fz, ↓wM_look_ow, ↓wM_look_nm, ↓wM_frz_fz, ↓wM_frz_ow, ↓wM_frz_nm, ↓wM_op2, ↓wM_op2T, ↓wO_gB, ↓wM_op1, ↓wM_nil, ↓wM_cons, ↓wM_frzA0, ↓wM_frzA, ↓wM_lookA0, ↓wM_lookA, ↓wM_tup, ↓wM_lst, ↓wM_B, ↓wM_isi, ↓wM_me, ↓wM_sl, ↓wM_noP, ↓wM_part, ↓wM_key, ↓wM_call, ↓wM_argSA0, ↓wM_argSA, ↓wM_argS_fz, ↓wM_argS_ow, ↓wM_argS_nm, ↓wM_mut, ↓wM_yes, ↓wM_rng1, ↓wM_rng2, ↓wM_wkV, ↓wM_wkT, ↓wM_wkL, ↓wM_wk2, ↓wM_wkB, ↓wM_wkC, ↓wM_wkS, ↓wM_wk1, ↓wM_wkLc, ↓wM_wkIf, ↓wM_wkLR, ↓wM_rng3, ↓wM_zip, ↓wM_rga1, ↓wM_rga2, ↓wM_lrg, ↓wM_trg, ↓wM_not, ↓wM_tru, ↓wM_and, ↓wM_or, ↓wM_andV, ↓wM_orV, ↓wM_notV, ↓wM_ifE, ↓wM_chain, ↓wM_chainT, ↓wM_dispN, ↓wM_pairs0, ↓wM_pairs, ↓wM_new, ↓wO_gsC, ↓wS_seq, ↓wS_pass, ↓wS_brk, ↓wS_cnt, ↓wS_ret, ↓wS_drop, ↓wS_if, ↓wS_set, ↓wS_asg, ↓wS_par, ↓wS_put, ↓wS_augS, ↓wS_aug, ↓wM_run', wO_some, varK_fz, varK_ow, varK_lk, lookK_fz, lookK_ow, lookK_lk, frzK_fz, frzK_ow, frzK_lk, argK_fz, argK_owt, argK_owf, argK_lkt, argK_lkf, mutK_ow', mutO_ow, putK'_ow, getK_ow, fzO_fz, augK_fz, intD_int, retK_fz, retK_ow, retK_nm, retO_fz, retO_ow, retO_lk, setR_fz, setR_ow, setR_nm, setK_fz, setK_ow, setK_lk, tru_b, tru_n, tru_l, tru_t, key_i, key_s, gIAdd_ii, gISub_ii, gPow_18, gN_ok, gsN_ok, gT_ok, setQs_nil, setQs_fz, setQs_ow, outP_t, outP_f, outP_n, wkO_fz, wkO_ow, wkO_lk, wk_fz, wk_ow, wk_nm, items_l, items_t, unl_none, unl_some, unlK_lk, callK_R, callR_fz, callR_ow, rest_nil, rest_cons, restK_some, wipe_nil, wipe_cons, gAdd_ii, gSub_ii, gMul_l, gMul_r, gDiv_ii, gMod_ii, gNeg_i, gEq_ii, gEq_ss, gEq_bb, gNe_ii, gNe_ss, gLt_ii, gLe_ii, gGt_ii, gGe_ii, gIx_l0, gIx_t0, gIx_l1, gIx_t1, gIx_l2, gIx_t2, gIx_t3, gIx_tz, gRev_l, gRev_t, zipD_ll, zipD_tl, zipD_lt, zipD_tt, int1_ok, int2_ok, gLen_l, gLen_t, gLen_d, gAbs_i, gAppend_l, gExtend_l, gInt_i, gTuple_l, gTuple_t, gList_l, gList_t, gMax_ii, gMin_ii, gSum_l, gIs_none, isLst, isT, isOw, List.getElem?_cons_zero, List.getElem?_cons_succ, List.length_cons, List.length_nil, List.cons_append, List.nil_append, List.replicate, List.set_cons_zero, List.set_cons_succ, true_and, and_true, if_true, List.map_cons, List.map_nil, Nat.reduceAdd, Nat.reduceSub, Nat.reduceLT, Nat.reduceLeDiff, List.length_set, List.length_map, List.length_append, List.length_range, reduceIte, reduceDIte, Bool.false_eq_true, slotOf, wb, Option.getD_some, nmOk, heldR, List.all_cons, List.all_nil, List.any_cons, List.any_nil, isNm, Bool.and_true, Bool.true_and, Bool.false_and, Bool.and_false, Bool.not_false, Bool.not_true, Bool.or_false, hc, decide_true, ne_eq, not_false_eq_true, decide_false]
  have hF := fr_Fr one other
  have e3 := sametables_ok one other h1 to.ok (by omega) to.len
  simp (disch := first | omega | (simp only [List.length_map, List.length_append, List.length_cons, List.length_nil, List.length_set, List.length_range, sizeLine_eq]; done) | (simp only [List.length_map, List.length_append, List.length_cons, List.length_nil, List.length_set, List.length_range, sizeLine_eq]; omega)) only [↓wM_bd, ↓wM_pr, ↓wM_opt, ↓wM_C, ↓wM_var, ↓wM_look_fz, ↓wM_look_ow, ↓wM_look_nm, ↓wM_frz_fz, ↓wM_frz_ow, ↓wM_frz_nm, ↓wM_op2, ↓wM_op2T, ↓wO_gB, ↓wM_op1, ↓wM_nil, ↓wM_cons, ↓wM_frzA0, ↓wM_frzA, ↓wM_lookA0, ↓wM_lookA, ↓wM_tup, ↓wM_lst, ↓wM_B, ↓wM_isi, ↓wM_me, ↓wM_sl, ↓wM_noP, ↓wM_part, ↓wM_key, ↓wM_call, ↓wM_argSA0, ↓wM_argSA, ↓wM_argS_fz, ↓wM_argS_ow, ↓wM_argS_nm, ↓wM_mut, ↓wM_yes, ↓wM_rng1, ↓wM_rng2, ↓wM_wkV, ↓wM_wkT, ↓wM_wkL, ↓wM_wk2, ↓wM_wkB, ↓wM_wkC, ↓wM_wkS, ↓wM_wk1, ↓wM_wkLc, ↓wM_wkIf, ↓wM_wkLR, ↓wM_rng3, ↓wM_zip, ↓wM_rga1, ↓wM_rga2, ↓wM_lrg, ↓wM_trg, ↓wM_not, ↓wM_tru, ↓wM_and, ↓wM_or, ↓wM_andV, ↓wM_orV, ↓wM_notV, ↓wM_chain, ↓wM_chainT, ↓wM_dispN, ↓wM_pairs0, ↓wM_pairs, ↓wM_new, ↓wO_gsC, ↓wS_seq, ↓wS_pass, ↓wS_brk, ↓wS_cnt, ↓wS_ret, ↓wS_drop, ↓wS_if, ↓wS_set, ↓wS_asg, ↓wS_par, ↓wS_put, ↓wS_augS, ↓wS_aug, ↓wM_run', wO_some, varK_fz, varK_ow, varK_lk, lookK_fz, lookK_ow, lookK_lk, frzK_fz, frzK_ow, frzK_lk, argK_fz, argK_owt, argK_owf, argK_lkt, argK_lkf, mutK_ow', mutO_ow, putK'_ow, getK_ow, fzO_fz, augK_fz, intD_int, retK_fz, retK_ow, retK_nm, retO_fz, retO_ow, retO_lk, setR_fz, setR_ow, setR_nm, setK_fz, setK_ow, setK_lk, tru_b, tru_n, tru_l, tru_t, key_i, key_s, gIAdd_ii, gISub_ii, gPow_18, gN_ok, gsN_ok, gT_ok, setQs_nil, setQs_fz, setQs_ow, outP_t, outP_f, outP_n, wkO_fz, wkO_ow, wkO_lk, wk_fz, wk_ow, wk_nm, items_l, items_t, unl_none, unl_some, unlK_lk, callK_R, callR_fz, callR_ow, rest_nil, rest_cons, restK_some, wipe_nil, wipe_cons, gAdd_ii, gSub_ii, gMul_l, gMul_r, gDiv_ii, gMod_ii, gNeg_i, gEq_ii, gEq_ss, gEq_bb, gNe_ii, gNe_ss, gLt_ii, gLe_ii, gGt_ii, gGe_ii, gIx_l0, gIx_t0, gIx_l1, gIx_t1, gIx_l2, gIx_t2, gIx_t3, gIx_tz, gRev_l, gRev_t, zipD_ll, zipD_tl, zipD_lt, zipD_tt, int1_ok, int2_ok, gLen_l, gLen_t, gLen_d, gAbs_i, gAppend_l, gExtend_l, gInt_i, gTuple_l, gTuple_t, gList_l, gList_t, gMax_ii, gMin_ii, gSum_l, gIs_none, isLst, isT, isOw, List.getElem?_cons_zero, List.getElem?_cons_succ, List.length_cons, List.length_nil, List.cons_append, List.nil_append, List.replicate, List.set_cons_zero, List.set_cons_succ, true_and, and_true, if_true, List.map_cons, List.map_nil, Nat.reduceAdd, Nat.reduceSub, Nat.reduceLT, Nat.reduceLeDiff, List.length_set, List.length_map, List.length_append, List.length_range, reduceIte, reduceDIte, Bool.false_eq_true, slotOf, wb, Option.getD_some, nmOk, heldR, List.all_cons, List.all_nil, List.any_cons, List.any_nil, isNm, Bool.and_true, Bool.true_and, Bool.false_and, Bool.and_false, Bool.not_false, Bool.not_true, Bool.or_false, e3]
  refine wM_cut (r := .fz (resT one other)) (ρ' := [.fz sc, .ow (Wd ds (i2 + 1 + 1 + 1 : Nat)), .fz d, .fz (.tuple (one.map encP)), .fz (.tuple (other.map encP)), .fz (.int (k : Nat)), s6, s7, s8, .ow (.list ((lt one).map encP)), .ow (.list (((List.range 90).filter fun n : Nat => decide (ra one n ≠ ra other n)).map fun n : Nat => PyData.int ((n : Nat) + 1))), s11, s12, s13, s14]) ?_ ?_
  · rcases apart_ok hF h1 to.ok with ⟨f1, f2⟩ | ⟨f, t, f1, f2⟩
    · have hx : gNe (.list []) (.list []) = some false := by rfl
      rw [f2]
      simp (disch := first | omega | (simp only [List.length_map, List.length_append, List.length_cons, List.length_nil, List.length_set, List.length_range, sizeLine_eq]; done) | (simp only [List.length_map, List.length_append, List.length_cons, List.length_nil, List.length_set, List.length_range, sizeLine_eq]; omega)) only [↓wM_bd, ↓wM_pr, ↓wM_opt, ↓wM_C, ↓wM_var, ↓wM_look_fz, ↓wM_look_ow, ↓wM_look_nm, ↓wM_frz_fz, ↓wM_frz_ow, ↓wM_frz_nm, ↓wM_op2, ↓wM_op2T, ↓wO_gB, ↓wM_op1, ↓wM_nil, ↓wM_cons, ↓wM_frzA0, ↓wM_frzA, ↓wM_lookA0, ↓wM_lookA, ↓wM_tup, ↓wM_lst, ↓wM_B, ↓wM_isi, ↓wM_me, ↓wM_sl, ↓wM_noP, ↓wM_part, ↓wM_key, ↓wM_call, ↓wM_argSA0, ↓wM_argSA, ↓wM_argS_fz, ↓wM_argS_ow, ↓wM_argS_nm, ↓wM_mut, ↓wM_yes, ↓wM_rng1, ↓wM_rng2, ↓wM_wkV, ↓wM_wkT, ↓wM_wkL, ↓wM_wk2, ↓wM_wkB, ↓wM_wkC, ↓wM_wkS, ↓wM_wk1, ↓wM_wkLc, ↓wM_wkIf, ↓wM_wkLR, ↓wM_rng3, ↓wM_zip, ↓wM_rga1, ↓wM_rga2, ↓wM_lrg, ↓wM_trg, ↓wM_not, ↓wM_tru, ↓wM_and, ↓wM_or, ↓wM_andV, ↓wM_orV, ↓wM_notV, ↓wM_ifE, ↓wM_chain, ↓wM_chainT, ↓wM_dispN, ↓wM_pairs0, ↓wM_pairs, ↓wM_new, ↓wO_gsC, ↓wS_seq, ↓wS_pass, ↓wS_brk, ↓wS_cnt, ↓wS_ret, ↓wS_drop, ↓wS_if, ↓wS_set, ↓wS_asg, ↓wS_par, ↓wS_put, ↓wS_augS, ↓wS_aug, ↓wM_run', wO_some, varK_fz, varK_ow, varK_lk, lookK_fz, lookK_ow, lookK_lk, frzK_fz, frzK_ow, frzK_lk, argK_fz, argK_owt, argK_owf, argK_lkt, argK_lkf, mutK_ow', mutO_ow, putK'_ow, getK_ow, fzO_fz, augK_fz, intD_int, retK_fz, retK_ow, retK_nm, retO_fz, retO_ow, retO_lk, setR_fz, setR_ow, setR_nm, setK_fz, setK_ow, setK_lk, tru_b, tru_n, tru_l, tru_t, key_i, key_s, gIAdd_ii, gISub_ii, gPow_18, gN_ok, gsN_ok, gT_ok, setQs_nil, setQs_fz, setQs_ow, outP_t, outP_f, outP_n, wkO_fz, wkO_ow, wkO_lk, wk_fz, wk_ow, wk_nm, items_l, items_t, unl_none, unl_some, unlK_lk, callK_R, callR_fz, callR_ow, rest_nil, rest_cons, restK_some, wipe_nil, wipe_cons, gAdd_ii, gSub_ii, gMul_l, gMul_r, gDiv_ii, gMod_ii, gNeg_i, gEq_ii, gEq_ss, gEq_bb, gNe_ii, gNe_ss, gLt_ii, gLe_ii, gGt_ii, gGe_ii, gIx_l0, gIx_t0, gIx_l1, gIx_t1, gIx_l2, gIx_t2, gIx_t3, gIx_tz, gRev_l, gRev_t, zipD_ll, zipD_tl, zipD_lt, zipD_tt, int1_ok, int2_ok, gLen_l, gLen_t, gLen_d, gAbs_i, gAppend_l, gExtend_l, gInt_i, gTuple_l, gTuple_t, gList_l, gList_t, gMax_ii, gMin_ii, gSum_l, gIs_none, isLst, isT, isOw, List.getElem?_cons_zero, List.getElem?_cons_succ, List.length_cons, List.length_nil, List.cons_append, List.nil_append, List.replicate, List.set_cons_zero, List.set_cons_succ, true_and, and_true, if_true, List.map_cons, List.map_nil, Nat.reduceAdd, Nat.reduceSub, Nat.reduceLT, Nat.reduceLeDiff, List.length_set, List.length_map, List.length_append, List.length_range, reduceIte, reduceDIte, Bool.false_eq_true, slotOf, wb, Option.getD_some, nmOk, heldR, List.all_cons, List.all_nil, List.any_cons, List.any_nil, isNm, Bool.and_true, Bool.true_and, Bool.false_and, Bool.and_false, Bool.not_false, Bool.not_true, Bool.or_false, hx, resT, f1]
    · rw [f2]
      have hsh : SeqAt.shaped (.list ((f :: t).map fun n : Nat => PyData.int ((n : Nat) + 1))) = true := fine_sh (n := 1) (fine_l fun d hd => by
        obtain ⟨i, _, rfl⟩ := List.mem_map.mp hd; exact fine_i) (by omega)
      have hx : gNe (.list (.int ((f : Nat) + 1) :: t.map fun n : Nat => PyData.int ((n : Nat) + 1))) (.list []) = some true := gNe_lnil hsh
      simp (disch := first | omega | (simp only [List.length_map, List.length_append, List.length_cons, List.length_nil, List.length_set, List.length_range, sizeLine_eq]; done) | (simp only [List.length_map, List.length_append, List.length_cons, List.length_nil, List.length_set, List.length_range, sizeLine_eq]; omega)) only [↓wM_bd, ↓wM_pr, ↓wM_opt, ↓wM_C, ↓wM_var, ↓wM_look_fz, ↓wM_look_ow, ↓wM_look_nm, ↓wM_frz_fz, ↓wM_frz_ow, ↓wM_frz_nm, ↓wM_op2, ↓wM_op2T, ↓wO_gB, ↓wM_op1, ↓wM_nil, ↓wM_cons, ↓wM_frzA0, ↓wM_frzA, ↓wM_lookA0, ↓wM_lookA, ↓wM_tup, ↓wM_lst, ↓wM_B, ↓wM_isi, ↓wM_me, ↓wM_sl, ↓wM_noP, ↓wM_part, ↓wM_key, ↓wM_call, ↓wM_argSA0, ↓wM_argSA, ↓wM_argS_fz, ↓wM_argS_ow, ↓wM_argS_nm, ↓wM_mut, ↓wM_yes, ↓wM_rng1, ↓wM_rng2, ↓wM_wkV, ↓wM_wkT, ↓wM_wkL, ↓wM_wk2, ↓wM_wkB, ↓wM_wkC, ↓wM_wkS, ↓wM_wk1, ↓wM_wkLc, ↓wM_wkIf, ↓wM_wkLR, ↓wM_rng3, ↓wM_zip, ↓wM_rga1, ↓wM_rga2, ↓wM_lrg, ↓wM_trg, ↓wM_not, ↓wM_tru, ↓wM_and, ↓wM_or, ↓wM_andV, ↓wM_orV, ↓wM_notV, ↓wM_ifE, ↓wM_chain, ↓wM_chainT, ↓wM_dispN, ↓wM_pairs0, ↓wM_pairs, ↓wM_new, ↓wO_gsC, ↓wS_seq, ↓wS_pass, ↓wS_brk, ↓wS_cnt, ↓wS_ret, ↓wS_drop, ↓wS_if, ↓wS_set, ↓wS_asg, ↓wS_par, ↓wS_put, ↓wS_augS, ↓wS_aug, ↓wM_run', wO_some, varK_fz, varK_ow, varK_lk, lookK_fz, lookK_ow, lookK_lk, frzK_fz, frzK_ow, frzK_lk, argK_fz, argK_owt, argK_owf, argK_lkt, argK_lkf, mutK_ow', mutO_ow, putK'_ow, getK_ow, fzO_fz, augK_fz, intD_int, retK_fz, retK_ow, retK_nm, retO_fz, retO_ow, retO_lk, setR_fz, setR_ow, setR_nm, setK_fz, setK_ow, setK_lk, tru_b, tru_n, tru_l, tru_t, key_i, key_s, gIAdd_ii, gISub_ii, gPow_18, gN_ok, gsN_ok, gT_ok, setQs_nil, setQs_fz, setQs_ow, outP_t, outP_f, outP_n, wkO_fz, wkO_ow, wkO_lk, wk_fz, wk_ow, wk_nm, items_l, items_t, unl_none, unl_some, unlK_lk, callK_R, callR_fz, callR_ow, rest_nil, rest_cons, restK_some, wipe_nil, wipe_cons, gAdd_ii, gSub_ii, gMul_l, gMul_r, gDiv_ii, gMod_ii, gNeg_i, gEq_ii, gEq_ss, gEq_bb, gNe_ii, gNe_ss, gLt_ii, gLe_ii, gGt_ii, gGe_ii, gIx_l0, gIx_t0, gIx_l1, gIx_t1, gIx_l2, gIx_t2, gIx_t3, gIx_tz, gRev_l, gRev_t, zipD_ll, zipD_tl, zipD_lt, zipD_tt, int1_ok, int2_ok, gLen_l, gLen_t, gLen_d, gAbs_i, gAppend_l, gExtend_l, gInt_i, gTuple_l, gTuple_t, gList_l, gList_t, gMax_ii, gMin_ii, gSum_l, gIs_none, isLst, isT, isOw, List.getElem?_cons_zero, List.getElem?_cons_succ, List.length_cons, List.length_nil, List.cons_append, List.nil_append, List.replicate, List.set_cons_zero, List.set_cons_succ, true_and, and_true, if_true, List.map_cons, List.map_nil, Nat.reduceAdd, Nat.reduceSub, Nat.reduceLT, Nat.reduceLeDiff, List.length_set, List.length_map, List.length_append, List.length_range, reduceIte, reduceDIte, Bool.false_eq_true, slotOf, wb, Option.getD_some, nmOk, heldR, List.all_cons, List.all_nil, List.any_cons, List.any_nil, isNm, Bool.and_true, Bool.true_and, Bool.false_and, Bool.and_false, Bool.not_false, Bool.not_true, Bool.or_false, hx, resT, f1]
  have e4 := alike_ok 6 (resT one other) (by
    unfold resT; split
    · exact ⟨by simp, by simp [okV]⟩
    · exact ⟨by simp, by simp [okV]⟩)
  have e5 := sumtable_ok one other h1 to.ok (by omega) to.len
  simp (disch := first | omega | (simp only [List.length_map, List.length_append, List.length_cons, List.length_nil, List.length_set, List.length_range, sizeLine_eq]; done) | (simp only [List.length_map, List.length_append, List.length_cons, List.length_nil, List.length_set, List.length_range, sizeLine_eq]; omega)) only [↓wM_bd, ↓wM_pr, ↓wM_opt, ↓wM_C, ↓wM_var, ↓wM_look_fz, ↓wM_look_ow, ↓wM_look_nm, ↓wM_frz_fz, ↓wM_frz_ow, ↓wM_frz_nm, ↓wM_op2, ↓wM_op2T, ↓wO_gB, ↓wM_op1, ↓wM_nil, ↓wM_cons, ↓wM_frzA0, ↓wM_frzA, ↓wM_lookA0, ↓wM_lookA, ↓wM_tup, ↓wM_lst, ↓wM_B, ↓wM_isi, ↓wM_me, ↓wM_sl, ↓wM_noP, ↓wM_part, ↓wM_key, ↓wM_call, ↓wM_argSA0, ↓wM_argSA, ↓wM_argS_fz, ↓wM_argS_ow, ↓wM_argS_nm, ↓wM_mut, ↓wM_yes, ↓wM_rng1, ↓wM_rng2, ↓wM_wkV, ↓wM_wkT, ↓wM_wkL, ↓wM_wk2, ↓wM_wkB, ↓wM_wkC, ↓wM_wkS, ↓wM_wk1, ↓wM_wkLc, ↓wM_wkIf, ↓wM_wkLR, ↓wM_rng3, ↓wM_zip, ↓wM_rga1, ↓wM_rga2, ↓wM_lrg, ↓wM_trg, ↓wM_not, ↓wM_tru, ↓wM_and, ↓wM_or, ↓wM_andV, ↓wM_orV, ↓wM_notV, ↓wM_ifE, ↓wM_chain, ↓wM_chainT, ↓wM_dispN, ↓wM_pairs0, ↓wM_pairs, ↓wM_new, ↓wO_gsC, ↓wS_seq, ↓wS_pass, ↓wS_brk, ↓wS_cnt, ↓wS_ret, ↓wS_drop, ↓wS_if, ↓wS_set, ↓wS_asg, ↓wS_par, ↓wS_put, ↓wS_augS, ↓wS_aug, ↓wM_run', wO_some, varK_fz, varK_ow, varK_lk, lookK_fz, lookK_ow, lookK_lk, frzK_fz, frzK_ow, frzK_lk, argK_fz, argK_owt, argK_owf, argK_lkt, argK_lkf, mutK_ow', mutO_ow, putK'_ow, getK_ow, fzO_fz, augK_fz, intD_int, retK_fz, retK_ow, retK_nm, retO_fz, retO_ow, retO_lk, setR_fz, setR_ow, setR_nm, setK_fz, setK_ow, setK_lk, tru_b, tru_n, tru_l, tru_t, key_i, key_s, gIAdd_ii, gISub_ii, gPow_18, gN_ok, gsN_ok, gT_ok, setQs_nil, setQs_fz, setQs_ow, outP_t, outP_f, outP_n, wkO_fz, wkO_ow, wkO_lk, wk_fz, wk_ow, wk_nm, items_l, items_t, unl_none, unl_some, unlK_lk, callK_R, callR_fz, callR_ow, rest_nil, rest_cons, restK_some, wipe_nil, wipe_cons, gAdd_ii, gSub_ii, gMul_l, gMul_r, gDiv_ii, gMod_ii, gNeg_i, gEq_ii, gEq_ss, gEq_bb, gNe_ii, gNe_ss, gLt_ii, gLe_ii, gGt_ii, gGe_ii, gIx_l0, gIx_t0, gIx_l1, gIx_t1, gIx_l2, gIx_t2, gIx_t3, gIx_tz, gRev_l, gRev_t, zipD_ll, zipD_tl, zipD_lt, zipD_tt, int1_ok, int2_ok, gLen_l, gLen_t, gLen_d, gAbs_i, gAppend_l, gExtend_l, gInt_i, gTuple_l, gTuple_t, gList_l, gList_t, gMax_ii, gMin_ii, gSum_l, gIs_none, isLst, isT, isOw, List.getElem?_cons_zero, List.getElem?_cons_succ, List.length_cons, List.length_nil, List.cons_append, List.nil_append, List.replicate, List.set_cons_zero, List.set_cons_succ, true_and, and_true, if_true, List.map_cons, List.map_nil, Nat.reduceAdd, Nat.reduceSub, Nat.reduceLT, Nat.reduceLeDiff, List.length_set, List.length_map, List.length_append, List.length_range, reduceIte, reduceDIte, Bool.false_eq_true, slotOf, wb, Option.getD_some, nmOk, heldR, List.all_cons, List.all_nil, List.any_cons, List.any_nil, isNm, Bool.and_true, Bool.true_and, Bool.false_and, Bool.and_false, Bool.not_false, Bool.not_true, Bool.or_false, e4, e5]
  have hB0 := both_Tb hF h1 to.ok r1 to.ra (by have := fr_len one other (by omega) to.len; omega)
  have hL := lt_Lt hB0.up
  have hB := lt_Tb hB0
  have hra : ∀ n : Nat, ra (both one other) n = ra one n + ra other n := fun n => by
    rw [← ra_both hF h1 to.ok (by omega)]; exact hL.ra n
  have hdif : ∀ k a b, (both one other)[k]? = some a → (both one other)[k + 1]? = some b → a.1 < b.1 ∧ a.2 ≠ b.2 := hL.dif
  have hB : Tb (both one other) := hB
  generalize both one other = B at hra hdif hB
  have hnil : gNe (.list []) (.list []) = some false := by rfl
  refine wM_lcM (enc := fun n : Nat => .int (n : Nat)) (xs := List.range 90) (l := none) (by simp (disch := first | omega | (simp only [List.length_map, List.length_append, List.length_cons, List.length_nil, List.length_set, List.length_range, sizeLine_eq]; done) | (simp only [List.length_map, List.length_append, List.length_cons, List.length_nil, List.length_set, List.length_range, sizeLine_eq]; omega)) only [↓wM_bd, ↓wM_pr, ↓wM_opt, ↓wM_C, ↓wM_var, ↓wM_look_fz, ↓wM_look_ow, ↓wM_look_nm, ↓wM_frz_fz, ↓wM_frz_ow, ↓wM_frz_nm, ↓wM_op2, ↓wM_op2T, ↓wO_gB, ↓wM_op1, ↓wM_nil, ↓wM_cons, ↓wM_frzA0, ↓wM_frzA, ↓wM_lookA0, ↓wM_lookA, ↓wM_tup, ↓wM_lst, ↓wM_B, ↓wM_isi, ↓wM_me, ↓wM_sl, ↓wM_noP, ↓wM_part, ↓wM_key, ↓wM_call, ↓wM_argSA0, ↓wM_argSA, ↓wM_argS_fz, ↓wM_argS_ow, ↓wM_argS_nm, ↓wM_mut, ↓wM_yes, ↓wM_rng1, ↓wM_rng2, ↓wM_wkV, ↓wM_wkT, ↓wM_wkL, ↓wM_wk2, ↓wM_wkB, ↓wM_wkC, ↓wM_wkS, ↓wM_wk1, ↓wM_wkLc, ↓wM_wkIf, ↓wM_wkLR, ↓wM_rng3, ↓wM_zip, ↓wM_rga1, ↓wM_rga2, ↓wM_lrg, ↓wM_trg, ↓wM_not, ↓wM_tru, ↓wM_and, ↓wM_or, ↓wM_andV, ↓wM_orV, ↓wM_notV, ↓wM_ifE, ↓wM_chain, ↓wM_chainT, ↓wM_dispN, ↓wM_pairs0, ↓wM_pairs, ↓wM_new, ↓wO_gsC, ↓wS_seq, ↓wS_pass, ↓wS_brk, ↓wS_cnt, ↓wS_ret, ↓wS_drop, ↓wS_if, ↓wS_set, ↓wS_asg, ↓wS_par, ↓wS_put, ↓wS_augS, ↓wS_aug, ↓wM_run', wO_some, varK_fz, varK_ow, varK_lk, lookK_fz, lookK_ow, lookK_lk, frzK_fz, frzK_ow, frzK_lk, argK_fz, argK_owt, argK_owf, argK_lkt, argK_lkf, mutK_ow', mutO_ow, putK'_ow, getK_ow, fzO_fz, augK_fz, intD_int, retK_fz, retK_ow, retK_nm, retO_fz, retO_ow, retO_lk, setR_fz, setR_ow, setR_nm, setK_fz, setK_ow, setK_lk, tru_b, tru_n, tru_l, tru_t, key_i, key_s, gIAdd_ii, gISub_ii, gPow_18, gN_ok, gsN_ok, gT_ok, setQs_nil, setQs_fz, setQs_ow, outP_t, outP_f, outP_n, wkO_fz, wkO_ow, wkO_lk, wk_fz, wk_ow, wk_nm, items_l, items_t, unl_none, unl_some, unlK_lk, callK_R, callR_fz, callR_ow, rest_nil, rest_cons, restK_some, wipe_nil, wipe_cons, gAdd_ii, gSub_ii, gMul_l, gMul_r, gDiv_ii, gMod_ii, gNeg_i, gEq_ii, gEq_ss, gEq_bb, gNe_ii, gNe_ss, gLt_ii, gLe_ii, gGt_ii, gGe_ii, gIx_l0, gIx_t0, gIx_l1, gIx_t1, gIx_l2, gIx_t2, gIx_t3, gIx_tz, gRev_l, gRev_t, zipD_ll, zipD_tl, zipD_lt, zipD_tt, int1_ok, int2_ok, gLen_l, gLen_t, gLen_d, gAbs_i, gAppend_l, gExtend_l, gInt_i, gTuple_l, gTuple_t, gList_l, gList_t, gMax_ii, gMin_ii, gSum_l, gIs_none, isLst, isT, isOw, List.getElem?_cons_zero, List.getElem?_cons_succ, List.length_cons, List.length_nil, List.cons_append, List.nil_append, List.replicate, List.set_cons_zero, List.set_cons_succ, true_and, and_true, if_true, List.map_cons, List.map_nil, Nat.reduceAdd, Nat.reduceSub, Nat.reduceLT, Nat.reduceLeDiff, List.length_set, List.length_map, List.length_append, List.length_range, reduceIte, reduceDIte, Bool.false_eq_true, slotOf, wb, Option.getD_some, nmOk, heldR, List.all_cons, List.all_nil, List.any_cons, List.any_nil, isNm, Bool.and_true, Bool.true_and, Bool.false_and, Bool.and_false, Bool.not_false, Bool.not_true, Bool.or_false, rng1_ok, rng2_ok] <;> (first | exact ⟨rfl, rfl⟩ | exact rfl)) (fun _ => false) (fun n : Nat => .int (n : Nat)) (by rw [List.length_range, sizeLine_eq]; omega) (fun n hn => ?_) ?_
  · rw [List.mem_range] at hn
    have e6 := lowed_ok B n hB (by omega)
    have e7 := lowed_ok one n h1 (by omega)
    have e8 := lowed_ok other n to.ok (by omega)
    have e9 := sumR_add (a := one) (b := other) (c := B) n fun m _ => hra m
    simp (disch := first | omega | (simp only [List.length_map, List.length_append, List.length_cons, List.length_nil, List.length_set, List.length_range, sizeLine_eq]; done) | (simp only [List.length_map, List.length_append, List.length_cons, List.length_nil, List.length_set, List.length_range, sizeLine_eq]; omega)) only [↓wM_bd, ↓wM_pr, ↓wM_opt, ↓wM_C, ↓wM_var, ↓wM_look_fz, ↓wM_look_ow, ↓wM_look_nm, ↓wM_frz_fz, ↓wM_frz_ow, ↓wM_frz_nm, ↓wM_op2, ↓wM_op2T, ↓wO_gB, ↓wM_op1, ↓wM_nil, ↓wM_cons, ↓wM_frzA0, ↓wM_frzA, ↓wM_lookA0, ↓wM_lookA, ↓wM_tup, ↓wM_lst, ↓wM_B, ↓wM_isi, ↓wM_me, ↓wM_sl, ↓wM_noP, ↓wM_part, ↓wM_key, ↓wM_call, ↓wM_argSA0, ↓wM_argSA, ↓wM_argS_fz, ↓wM_argS_ow, ↓wM_argS_nm, ↓wM_mut, ↓wM_yes, ↓wM_rng1, ↓wM_rng2, ↓wM_wkV, ↓wM_wkT, ↓wM_wkL, ↓wM_wk2, ↓wM_wkB, ↓wM_wkC, ↓wM_wkS, ↓wM_wk1, ↓wM_wkLc, ↓wM_wkIf, ↓wM_wkLR, ↓wM_rng3, ↓wM_zip, ↓wM_rga1, ↓wM_rga2, ↓wM_lrg, ↓wM_trg, ↓wM_not, ↓wM_tru, ↓wM_and, ↓wM_or, ↓wM_andV, ↓wM_orV, ↓wM_notV, ↓wM_ifE, ↓wM_chain, ↓wM_chainT, ↓wM_dispN, ↓wM_pairs0, ↓wM_pairs, ↓wM_new, ↓wO_gsC, ↓wS_seq, ↓wS_pass, ↓wS_brk, ↓wS_cnt, ↓wS_ret, ↓wS_drop, ↓wS_if, ↓wS_set, ↓wS_asg, ↓wS_par, ↓wS_put, ↓wS_augS, ↓wS_aug, ↓wM_run', wO_some, varK_fz, varK_ow, varK_lk, lookK_fz, lookK_ow, lookK_lk, frzK_fz, frzK_ow, frzK_lk, argK_fz, argK_owt, argK_owf, argK_lkt, argK_lkf, mutK_ow', mutO_ow, putK'_ow, getK_ow, fzO_fz, augK_fz, intD_int, retK_fz, retK_ow, retK_nm, retO_fz, retO_ow, retO_lk, setR_fz, setR_ow, setR_nm, setK_fz, setK_ow, setK_lk, tru_b, tru_n, tru_l, tru_t, key_i, key_s, gIAdd_ii, gISub_ii, gPow_18, gN_ok, gsN_ok, gT_ok, setQs_nil, setQs_fz, setQs_ow, outP_t, outP_f, outP_n, wkO_fz, wkO_ow, wkO_lk, wk_fz, wk_ow, wk_nm, items_l, items_t, unl_none, unl_some, unlK_lk, callK_R, callR_fz, callR_ow, rest_nil, rest_cons, restK_some, wipe_nil, wipe_cons, gAdd_ii, gSub_ii, gMul_l, gMul_r, gDiv_ii, gMod_ii, gNeg_i, gEq_ii, gEq_ss, gEq_bb, gNe_ii, gNe_ss, gLt_ii, gLe_ii, gGt_ii, gGe_ii, gIx_l0, gIx_t0, gIx_l1, gIx_t1, gIx_l2, gIx_t2, gIx_t3, gIx_tz, gRev_l, gRev_t, zipD_ll, zipD_tl, zipD_lt, zipD_tt, int1_ok, int2_ok, gLen_l, gLen_t, gLen_d, gAbs_i, gAppend_l, gExtend_l, gInt_i, gTuple_l, gTuple_t, gList_l, gList_t, gMax_ii, gMin_ii, gSum_l, gIs_none, isLst, isT, isOw, List.getElem?_cons_zero, List.getElem?_cons_succ, List.length_cons, List.length_nil, List.cons_append, List.nil_append, List.replicate, List.set_cons_zero, List.set_cons_succ, true_and, and_true, if_true, List.map_cons, List.map_nil, Nat.reduceAdd, Nat.reduceSub, Nat.reduceLT, Nat.reduceLeDiff, List.length_set, List.length_map, List.length_append, List.length_range, reduceIte, reduceDIte, Bool.false_eq_true, slotOf, wb, Option.getD_some, nmOk, heldR, List.all_cons, List.all_nil, List.any_cons, List.any_nil, isNm, Bool.and_true, Bool.true_and, Bool.false_and, Bool.and_false, Bool.not_false, Bool.not_true, Bool.or_false, e6, e7, e8, e9, decide_true]
  rw [filter_no]
  simp (disch := first | omega | (simp only [List.length_map, List.length_append, List.length_cons, List.length_nil, List.length_set, List.length_range, sizeLine_eq]; done) | (simp only [List.length_map, List.length_append, List.length_cons, List.length_nil, List.length_set, List.length_range, sizeLine_eq]; omega)) only [↓wM_bd, ↓wM_pr, ↓wM_opt, ↓wM_C, ↓wM_var, ↓wM_look_fz, ↓wM_look_ow, ↓wM_look_nm, ↓wM_frz_fz, ↓wM_frz_ow, ↓wM_frz_nm, ↓wM_op2, ↓wM_op2T, ↓wO_gB, ↓wM_op1, ↓wM_nil, ↓wM_cons, ↓wM_frzA0, ↓wM_frzA, ↓wM_lookA0, ↓wM_lookA, ↓wM_tup, ↓wM_lst, ↓wM_B, ↓wM_isi, ↓wM_me, ↓wM_sl, ↓wM_noP, ↓wM_part, ↓wM_key, ↓wM_call, ↓wM_argSA0, ↓wM_argSA, ↓wM_argS_fz, ↓wM_argS_ow, ↓wM_argS_nm, ↓wM_mut, ↓wM_yes, ↓wM_rng1, ↓wM_rng2, ↓wM_wkV, ↓wM_wkT, ↓wM_wkL, ↓wM_wk2, ↓wM_wkB, ↓wM_wkC, ↓wM_wkS, ↓wM_wk1, ↓wM_wkLc, ↓wM_wkIf, ↓wM_wkLR, ↓wM_rng3, ↓wM_zip, ↓wM_rga1, ↓wM_rga2, ↓wM_lrg, ↓wM_trg, ↓wM_not, ↓wM_tru, ↓wM_and, ↓wM_or, ↓wM_andV, ↓wM_orV, ↓wM_notV, ↓wM_ifE, ↓wM_chain, ↓wM_chainT, ↓wM_dispN, ↓wM_pairs0, ↓wM_pairs, ↓wM_new, ↓wO_gsC, ↓wS_seq, ↓wS_pass, ↓wS_brk, ↓wS_cnt, ↓wS_ret, ↓wS_drop, ↓wS_if, ↓wS_set, ↓wS_asg, ↓wS_par, ↓wS_put, ↓wS_augS, ↓wS_aug, ↓wM_run', wO_some, varK_fz, varK_ow, varK_lk, lookK_fz, lookK_ow, lookK_lk, frzK_fz, frzK_ow, frzK_lk, argK_fz, argK_owt, argK_owf, argK_lkt, argK_lkf, mutK_ow', mutO_ow, putK'_ow, getK_ow, fzO_fz, augK_fz, intD_int, retK_fz, retK_ow, retK_nm, retO_fz, retO_ow, retO_lk, setR_fz, setR_ow, setR_nm, setK_fz, setK_ow, setK_lk, tru_b, tru_n, tru_l, tru_t, key_i, key_s, gIAdd_ii, gISub_ii, gPow_18, gN_ok, gsN_ok, gT_ok, setQs_nil, setQs_fz, setQs_ow, outP_t, outP_f, outP_n, wkO_fz, wkO_ow, wkO_lk, wk_fz, wk_ow, wk_nm, items_l, items_t, unl_none, unl_some, unlK_lk, callK_R, callR_fz, callR_ow, rest_nil, rest_cons, restK_some, wipe_nil, wipe_cons, gAdd_ii, gSub_ii, gMul_l, gMul_r, gDiv_ii, gMod_ii, gNeg_i, gEq_ii, gEq_ss, gEq_bb, gNe_ii, gNe_ss, gLt_ii, gLe_ii, gGt_ii, gGe_ii, gIx_l0, gIx_t0, gIx_l1, gIx_t1, gIx_l2, gIx_t2, gIx_t3, gIx_tz, gRev_l, gRev_t, zipD_ll, zipD_tl, zipD_lt, zipD_tt, int1_ok, int2_ok, gLen_l, gLen_t, gLen_d, gAbs_i, gAppend_l, gExtend_l, gInt_i, gTuple_l, gTuple_t, gList_l, gList_t, gMax_ii, gMin_ii, gSum_l, gIs_none, isLst, isT, isOw, List.getElem?_cons_zero, List.getElem?_cons_succ, List.length_cons, List.length_nil, List.cons_append, List.nil_append, List.replicate, List.set_cons_zero, List.set_cons_succ, true_and, and_true, if_true, List.map_cons, List.map_nil, Nat.reduceAdd, Nat.reduceSub, Nat.reduceLT, Nat.reduceLeDiff, List.length_set, List.length_map, List.length_append, List.length_range, reduceIte, reduceDIte, Bool.false_eq_true, slotOf, wb, Option.getD_some, nmOk, heldR, List.all_cons, List.all_nil, List.any_cons, List.any_nil, isNm, Bool.and_true, Bool.true_and, Bool.false_and, Bool.and_false, Bool.not_false, Bool.not_true, Bool.or_false, hnil]
  have hBl := hB.len
  refine wM_lcM (enc := fun n : Nat => .int (1 + (n : Nat))) (xs := List.range ((B.length : Nat) - 1 : Int).toNat) (l := none) (by simp (disch := first | omega | (simp only [List.length_map, List.length_append, List.length_cons, List.length_nil, List.length_set, List.length_range, sizeLine_eq]; done) | (simp only [List.length_map, List.length_append, List.length_cons, List.length_nil, List.length_set, List.length_range, sizeLine_eq]; omega)) only [↓wM_bd, ↓wM_pr, ↓wM_opt, ↓wM_C, ↓wM_var, ↓wM_look_fz, ↓wM_look_ow, ↓wM_look_nm, ↓wM_frz_fz, ↓wM_frz_ow, ↓wM_frz_nm, ↓wM_op2, ↓wM_op2T, ↓wO_gB, ↓wM_op1, ↓wM_nil, ↓wM_cons, ↓wM_frzA0, ↓wM_frzA, ↓wM_lookA0, ↓wM_lookA, ↓wM_tup, ↓wM_lst, ↓wM_B, ↓wM_isi, ↓wM_me, ↓wM_sl, ↓wM_noP, ↓wM_part, ↓wM_key, ↓wM_call, ↓wM_argSA0, ↓wM_argSA, ↓wM_argS_fz, ↓wM_argS_ow, ↓wM_argS_nm, ↓wM_mut, ↓wM_yes, ↓wM_rng1, ↓wM_rng2, ↓wM_wkV, ↓wM_wkT, ↓wM_wkL, ↓wM_wk2, ↓wM_wkB, ↓wM_wkC, ↓wM_wkS, ↓wM_wk1, ↓wM_wkLc, ↓wM_wkIf, ↓wM_wkLR, ↓wM_rng3, ↓wM_zip, ↓wM_rga1, ↓wM_rga2, ↓wM_lrg, ↓wM_trg, ↓wM_not, ↓wM_tru, ↓wM_and, ↓wM_or, ↓wM_andV, ↓wM_orV, ↓wM_notV, ↓wM_ifE, ↓wM_chain, ↓wM_chainT, ↓wM_dispN, ↓wM_pairs0, ↓wM_pairs, ↓wM_new, ↓wO_gsC, ↓wS_seq, ↓wS_pass, ↓wS_brk, ↓wS_cnt, ↓wS_ret, ↓wS_drop, ↓wS_if, ↓wS_set, ↓wS_asg, ↓wS_par, ↓wS_put, ↓wS_augS, ↓wS_aug, ↓wM_run', wO_some, varK_fz, varK_ow, varK_lk, lookK_fz, lookK_ow, lookK_lk, frzK_fz, frzK_ow, frzK_lk, argK_fz, argK_owt, argK_owf, argK_lkt, argK_lkf, mutK_ow', mutO_ow, putK'_ow, getK_ow, fzO_fz, augK_fz, intD_int, retK_fz, retK_ow, retK_nm, retO_fz, retO_ow, retO_lk, setR_fz, setR_ow, setR_nm, setK_fz, setK_ow, setK_lk, tru_b, tru_n, tru_l, tru_t, key_i, key_s, gIAdd_ii, gISub_ii, gPow_18, gN_ok, gsN_ok, gT_ok, setQs_nil, setQs_fz, setQs_ow, outP_t, outP_f, outP_n, wkO_fz, wkO_ow, wkO_lk, wk_fz, wk_ow, wk_nm, items_l, items_t, unl_none, unl_some, unlK_lk, callK_R, callR_fz, callR_ow, rest_nil, rest_cons, restK_some, wipe_nil, wipe_cons, gAdd_ii, gSub_ii, gMul_l, gMul_r, gDiv_ii, gMod_ii, gNeg_i, gEq_ii, gEq_ss, gEq_bb, gNe_ii, gNe_ss, gLt_ii, gLe_ii, gGt_ii, gGe_ii, gIx_l0, gIx_t0, gIx_l1, gIx_t1, gIx_l2, gIx_t2, gIx_t3, gIx_tz, gRev_l, gRev_t, zipD_ll, zipD_tl, zipD_lt, zipD_tt, int1_ok, int2_ok, gLen_l, gLen_t, gLen_d, gAbs_i, gAppend_l, gExtend_l, gInt_i, gTuple_l, gTuple_t, gList_l, gList_t, gMax_ii, gMin_ii, gSum_l, gIs_none, isLst, isT, isOw, List.getElem?_cons_zero, List.getElem?_cons_succ, List.length_cons, List.length_nil, List.cons_append, List.nil_append, List.replicate, List.set_cons_zero, List.set_cons_succ, true_and, and_true, if_true, List.map_cons, List.map_nil, Nat.reduceAdd, Nat.reduceSub, Nat.reduceLT, Nat.reduceLeDiff, List.length_set, List.length_map, List.length_append, List.length_range, reduceIte, reduceDIte, Bool.false_eq_true, slotOf, wb, Option.getD_some, nmOk, heldR, List.all_cons, List.all_nil, List.any_cons, List.any_nil, isNm, Bool.and_true, Bool.true_and, Bool.false_and, Bool.and_false, Bool.not_false, Bool.not_true, Bool.or_false, rng1_ok, rng2_ok] <;> (first | exact ⟨rfl, rfl⟩ | exact rfl)) (fun _ => false) (fun n : Nat => .int (1 + (n : Nat))) (by rw [List.length_range, sizeLine_eq]; omega) (fun n hn => ?_) ?_
  · rw [List.mem_range] at hn
    have q1 : n < B.length := by omega
    have q2 : n + 1 < B.length := by omega
    have g1 : gIx (.tuple (B.map encP)) (.int (1 + (n : Nat) - 1)) = some (.fz (encP B[n])) := gIx_t (by omega) (by rw [show ((1 : Int) + (n : Nat) - 1).toNat = n by omega, List.getElem?_map, List.getElem?_eq_getElem q1]; rfl)
    have g2 : gIx (.tuple (B.map encP)) (.int (1 + (n : Nat))) = some (.fz (encP B[n + 1])) := gIx_t (by omega) (by rw [show ((1 : Int) + (n : Nat)).toNat = n + 1 by omega, List.getElem?_map, List.getElem?_eq_getElem q2]; rfl)
    obtain ⟨u1, u2⟩ := hdif n _ _ (List.getElem?_eq_getElem q1) (List.getElem?_eq_getElem q2)
    have u3 : ¬ B[n + 1].1 ≤ B[n].1 := by omega
    simp (disch := first | omega | (simp only [List.length_map, List.length_append, List.length_cons, List.length_nil, List.length_set, List.length_range, sizeLine_eq]; done) | (simp only [List.length_map, List.length_append, List.length_cons, List.length_nil, List.length_set, List.length_range, sizeLine_eq]; omega)) only [↓wM_bd, ↓wM_pr, ↓wM_opt, ↓wM_C, ↓wM_var, ↓wM_look_fz, ↓wM_look_ow, ↓wM_look_nm, ↓wM_frz_fz, ↓wM_frz_ow, ↓wM_frz_nm, ↓wM_op2, ↓wM_op2T, ↓wO_gB, ↓wM_op1, ↓wM_nil, ↓wM_cons, ↓wM_frzA0, ↓wM_frzA, ↓wM_lookA0, ↓wM_lookA, ↓wM_tup, ↓wM_lst, ↓wM_B, ↓wM_isi, ↓wM_me, ↓wM_sl, ↓wM_noP, ↓wM_part, ↓wM_key, ↓wM_call, ↓wM_argSA0, ↓wM_argSA, ↓wM_argS_fz, ↓wM_argS_ow, ↓wM_argS_nm, ↓wM_mut, ↓wM_yes, ↓wM_rng1, ↓wM_rng2, ↓wM_wkV, ↓wM_wkT, ↓wM_wkL, ↓wM_wk2, ↓wM_wkB, ↓wM_wkC, ↓wM_wkS, ↓wM_wk1, ↓wM_wkLc, ↓wM_wkIf, ↓wM_wkLR, ↓wM_rng3, ↓wM_zip, ↓wM_rga1, ↓wM_rga2, ↓wM_lrg, ↓wM_trg, ↓wM_not, ↓wM_tru, ↓wM_and, ↓wM_or, ↓wM_andV, ↓wM_orV, ↓wM_notV, ↓wM_ifE, ↓wM_chain, ↓wM_chainT, ↓wM_dispN, ↓wM_pairs0, ↓wM_pairs, ↓wM_new, ↓wO_gsC, ↓wS_seq, ↓wS_pass, ↓wS_brk, ↓wS_cnt, ↓wS_ret, ↓wS_drop, ↓wS_if, ↓wS_set, ↓wS_asg, ↓wS_par, ↓wS_put, ↓wS_augS, ↓wS_aug, ↓wM_run', wO_some, varK_fz, varK_ow, varK_lk, lookK_fz, lookK_ow, lookK_lk, frzK_fz, frzK_ow, frzK_lk, argK_fz, argK_owt, argK_owf, argK_lkt, argK_lkf, mutK_ow', mutO_ow, putK'_ow, getK_ow, fzO_fz, augK_fz, intD_int, retK_fz, retK_ow, retK_nm, retO_fz, retO_ow, retO_lk, setR_fz, setR_ow, setR_nm, setK_fz, setK_ow, setK_lk, tru_b, tru_n, tru_l, tru_t, key_i, key_s, gIAdd_ii, gISub_ii, gPow_18, gN_ok, gsN_ok, gT_ok, setQs_nil, setQs_fz, setQs_ow, outP_t, outP_f, outP_n, wkO_fz, wkO_ow, wkO_lk, wk_fz, wk_ow, wk_nm, items_l, items_t, unl_none, unl_some, unlK_lk, callK_R, callR_fz, callR_ow, rest_nil, rest_cons, restK_some, wipe_nil, wipe_cons, gAdd_ii, gSub_ii, gMul_l, gMul_r, gDiv_ii, gMod_ii, gNeg_i, gEq_ii, gEq_ss, gEq_bb, gNe_ii, gNe_ss, gLt_ii, gLe_ii, gGt_ii, gGe_ii, gIx_l0, gIx_t0, gIx_l1, gIx_t1, gIx_l2, gIx_t2, gIx_t3, gIx_tz, gRev_l, gRev_t, zipD_ll, zipD_tl, zipD_lt, zipD_tt, int1_ok, int2_ok, gLen_l, gLen_t, gLen_d, gAbs_i, gAppend_l, gExtend_l, gInt_i, gTuple_l, gTuple_t, gList_l, gList_t, gMax_ii, gMin_ii, gSum_l, gIs_none, isLst, isT, isOw, List.getElem?_cons_zero, List.getElem?_cons_succ, List.length_cons, List.length_nil, List.cons_append, List.nil_append, List.replicate, List.set_cons_zero, List.set_cons_succ, true_and, and_true, if_true, List.map_cons, List.map_nil, Nat.reduceAdd, Nat.reduceSub, Nat.reduceLT, Nat.reduceLeDiff, List.length_set, List.length_map, List.length_append, List.length_range, reduceIte, reduceDIte, Bool.false_eq_true, slotOf, wb, Option.getD_some, nmOk, heldR, List.all_cons, List.all_nil, List.any_cons, List.any_nil, isNm, Bool.and_true, Bool.true_and, Bool.false_and, Bool.and_false, Bool.not_false, Bool.not_true, Bool.or_false, g1, g2, gx0, gx1, u3, u2, decide_false]
  rw [filter_no]
  have c3 := nx_bd ds (i2 + 1 + 1 + 1) 9 (by omega)
  generalize hq3 : nx ds (i2 + 1 + 1 + 1) 9 = by_ at c3
  have e6 := shifted_ok one by_ h1
  have e7 := alike_ok 6 _ (okP (L := shf one by_) (by unfold shf; simp; omega))
  have htk1 : (one.map encP).take 1 = [encP x0] := by rw [hr]; rfl
  have hsh : shf one by_ = x0 :: r.map fun t => (t.1 + by_, t.2) := by unfold shf; rw [hr]; rfl
  simp (disch := first | omega | (simp only [List.length_map, List.length_append, List.length_cons, List.length_nil, List.length_set, List.length_range, sizeLine_eq]; done) | (simp only [List.length_map, List.length_append, List.length_cons, List.length_nil, List.length_set, List.length_range, sizeLine_eq]; omega)) only [↓wM_bd, ↓wM_pr, ↓wM_opt, ↓wM_C, ↓wM_var, ↓wM_look_fz, ↓wM_look_ow, ↓wM_look_nm, ↓wM_frz_fz, ↓wM_frz_ow, ↓wM_frz_nm, ↓wM_op2, ↓wM_op2T, ↓wO_gB, ↓wM_op1, ↓wM_nil, ↓wM_cons, ↓wM_frzA0, ↓wM_frzA, ↓wM_lookA0, ↓wM_lookA, ↓wM_tup, ↓wM_lst, ↓wM_B, ↓wM_isi, ↓wM_me, ↓wM_sl, ↓wM_noP, ↓wM_part, ↓wM_key, ↓wM_call, ↓wM_argSA0, ↓wM_argSA, ↓wM_argS_fz, ↓wM_argS_ow, ↓wM_argS_nm, ↓wM_mut, ↓wM_yes, ↓wM_rng1, ↓wM_rng2, ↓wM_wkV, ↓wM_wkT, ↓wM_wkL, ↓wM_wk2, ↓wM_wkB, ↓wM_wkC, ↓wM_wkS, ↓wM_wk1, ↓wM_wkLc, ↓wM_wkIf, ↓wM_wkLR, ↓wM_rng3, ↓wM_zip, ↓wM_rga1, ↓wM_rga2, ↓wM_lrg, ↓wM_trg, ↓wM_not, ↓wM_tru, ↓wM_and, ↓wM_or, ↓wM_andV, ↓wM_orV, ↓wM_notV, ↓wM_ifE, ↓wM_chain, ↓wM_chainT, ↓wM_dispN, ↓wM_pairs0, ↓wM_pairs, ↓wM_new, ↓wO_gsC, ↓wS_seq, ↓wS_pass, ↓wS_brk, ↓wS_cnt, ↓wS_ret, ↓wS_drop, ↓wS_if, ↓wS_set, ↓wS_asg, ↓wS_par, ↓wS_put, ↓wS_augS, ↓wS_aug, ↓wM_run', wO_some, varK_fz, varK_ow, varK_lk, lookK_fz, lookK_ow, lookK_lk, frzK_fz, frzK_ow, frzK_lk, argK_fz, argK_owt, argK_owf, argK_lkt, argK_lkf, mutK_ow', mutO_ow, putK'_ow, getK_ow, fzO_fz, augK_fz, intD_int, retK_fz, retK_ow, retK_nm, retO_fz, retO_ow, retO_lk, setR_fz, setR_ow, setR_nm, setK_fz, setK_ow, setK_lk, tru_b, tru_n, tru_l, tru_t, key_i, key_s, gIAdd_ii, gISub_ii, gPow_18, gN_ok, gsN_ok, gT_ok, setQs_nil, setQs_fz, setQs_ow, outP_t, outP_f, outP_n, wkO_fz, wkO_ow, wkO_lk, wk_fz, wk_ow, wk_nm, items_l, items_t, unl_none, unl_some, unlK_lk, callK_R, callR_fz, callR_ow, rest_nil, rest_cons, restK_some, wipe_nil, wipe_cons, gAdd_ii, gSub_ii, gMul_l, gMul_r, gDiv_ii, gMod_ii, gNeg_i, gEq_ii, gEq_ss, gEq_bb, gNe_ii, gNe_ss, gLt_ii, gLe_ii, gGt_ii, gGe_ii, gIx_l0, gIx_t0, gIx_l1, gIx_t1, gIx_l2, gIx_t2, gIx_t3, gIx_tz, gRev_l, gRev_t, zipD_ll, zipD_tl, zipD_lt, zipD_tt, int1_ok, int2_ok, gLen_l, gLen_t, gLen_d, gAbs_i, gAppend_l, gExtend_l, gInt_i, gTuple_l, gTuple_t, gList_l, gList_t, gMax_ii, gMin_ii, gSum_l, gIs_none, isLst, isT, isOw, List.getElem?_cons_zero, List.getElem?_cons_succ, List.length_cons, List.length_nil, List.cons_append, List.nil_append, List.replicate, List.set_cons_zero, List.set_cons_succ, true_and, and_true, if_true, List.map_cons, List.map_nil, Nat.reduceAdd, Nat.reduceSub, Nat.reduceLT, Nat.reduceLeDiff, List.length_set, List.length_map, List.length_append, List.length_range, reduceIte, reduceDIte, Bool.false_eq_true, slotOf, wb, Option.getD_some, nmOk, heldR, List.all_cons, List.all_nil, List.any_cons, List.any_nil, isNm, Bool.and_true, Bool.true_and, Bool.false_and, Bool.and_false, Bool.not_false, Bool.not_true, Bool.or_false, hnil, next_ok', hq3, e6, gSl_t, cutD_t1, htk1]
  refine wM_lcY (enc := encP) (xs := r) (l := none) (by
      simp (disch := first | omega | (simp only [List.length_map, List.length_append, List.length_cons, List.length_nil, List.length_set, List.length_range, sizeLine_eq]; done) | (simp only [List.length_map, List.length_append, List.length_cons, List.length_nil, List.length_set, List.length_range, sizeLine_eq]; omega)) only [↓wM_bd, ↓wM_pr, ↓wM_opt, ↓wM_C, ↓wM_var, ↓wM_look_fz, ↓wM_look_ow, ↓wM_look_nm, ↓wM_frz_fz, ↓wM_frz_ow, ↓wM_frz_nm, ↓wM_op2, ↓wM_op2T, ↓wO_gB, ↓wM_op1, ↓wM_nil, ↓wM_cons, ↓wM_frzA0, ↓wM_frzA, ↓wM_lookA0, ↓wM_lookA, ↓wM_tup, ↓wM_lst, ↓wM_B, ↓wM_isi, ↓wM_me, ↓wM_sl, ↓wM_noP, ↓wM_part, ↓wM_key, ↓wM_call, ↓wM_argSA0, ↓wM_argSA, ↓wM_argS_fz, ↓wM_argS_ow, ↓wM_argS_nm, ↓wM_mut, ↓wM_yes, ↓wM_rng1, ↓wM_rng2, ↓wM_wkV, ↓wM_wkT, ↓wM_wkL, ↓wM_wk2, ↓wM_wkB, ↓wM_wkC, ↓wM_wkS, ↓wM_wk1, ↓wM_wkLc, ↓wM_wkIf, ↓wM_wkLR, ↓wM_rng3, ↓wM_zip, ↓wM_rga1, ↓wM_rga2, ↓wM_lrg, ↓wM_trg, ↓wM_not, ↓wM_tru, ↓wM_and, ↓wM_or, ↓wM_andV, ↓wM_orV, ↓wM_notV, ↓wM_ifE, ↓wM_chain, ↓wM_chainT, ↓wM_dispN, ↓wM_pairs0, ↓wM_pairs, ↓wM_new, ↓wO_gsC, ↓wS_seq, ↓wS_pass, ↓wS_brk, ↓wS_cnt, ↓wS_ret, ↓wS_drop, ↓wS_if, ↓wS_set, ↓wS_asg, ↓wS_par, ↓wS_put, ↓wS_augS, ↓wS_aug, ↓wM_run', wO_some, varK_fz, varK_ow, varK_lk, lookK_fz, lookK_ow, lookK_lk, frzK_fz, frzK_ow, frzK_lk, argK_fz, argK_owt, argK_owf, argK_lkt, argK_lkf, mutK_ow', mutO_ow, putK'_ow, getK_ow, fzO_fz, augK_fz, intD_int, retK_fz, retK_ow, retK_nm, retO_fz, retO_ow, retO_lk, setR_fz, setR_ow, setR_nm, setK_fz, setK_ow, setK_lk, tru_b, tru_n, tru_l, tru_t, key_i, key_s, gIAdd_ii, gISub_ii, gPow_18, gN_ok, gsN_ok, gT_ok, setQs_nil, setQs_fz, setQs_ow, outP_t, outP_f, outP_n, wkO_fz, wkO_ow, wkO_lk, wk_fz, wk_ow, wk_nm, items_l, items_t, unl_none, unl_some, unlK_lk, callK_R, callR_fz, callR_ow, rest_nil, rest_cons, restK_some, wipe_nil, wipe_cons, gAdd_ii, gSub_ii, gMul_l, gMul_r, gDiv_ii, gMod_ii, gNeg_i, gEq_ii, gEq_ss, gEq_bb, gNe_ii, gNe_ss, gLt_ii, gLe_ii, gGt_ii, gGe_ii, gIx_l0, gIx_t0, gIx_l1, gIx_t1, gIx_l2, gIx_t2, gIx_t3, gIx_tz, gRev_l, gRev_t, zipD_ll, zipD_tl, zipD_lt, zipD_tt, int1_ok, int2_ok, gLen_l, gLen_t, gLen_d, gAbs_i, gAppend_l, gExtend_l, gInt_i, gTuple_l, gTuple_t, gList_l, gList_t, gMax_ii, gMin_ii, gSum_l, gIs_none, isLst, isT, isOw, List.getElem?_cons_zero, List.getElem?_cons_succ, List.length_cons, List.length_nil, List.cons_append, List.nil_append, List.replicate, List.set_cons_zero, List.set_cons_succ, true_and, and_true, if_true, List.map_cons, List.map_nil, Nat.reduceAdd, Nat.reduceSub, Nat.reduceLT, Nat.reduceLeDiff, List.length_set, List.length_map, List.length_append, List.length_range, reduceIte, reduceDIte, Bool.false_eq_true, slotOf, wb, Option.getD_some, nmOk, heldR, List.all_cons, List.all_nil, List.any_cons, List.any_nil, isNm, Bool.and_true, Bool.true_and, Bool.false_and, Bool.and_false, Bool.not_false, Bool.not_true, Bool.or_false, gSl_t, cutD_d1, hdr]
      all_goals first | exact ⟨rfl, rfl⟩ | rfl) (fun t => encP (t.1 + by_, t.2)) (by rw [sizeLine_eq]; omega) (fun t ht => ?_) ?_
  · rw [show encP t = .tuple [.int t.1, .int t.2] from rfl]
    simp (disch := first | omega | (simp only [List.length_map, List.length_append, List.length_cons, List.length_nil, List.length_set, List.length_range, sizeLine_eq]; done) | (simp only [List.length_map, List.length_append, List.length_cons, List.length_nil, List.length_set, List.length_range, sizeLine_eq]; omega)) only [↓wM_bd, ↓wM_pr, ↓wM_opt, ↓wM_C, ↓wM_var, ↓wM_look_fz, ↓wM_look_ow, ↓wM_look_nm, ↓wM_frz_fz, ↓wM_frz_ow, ↓wM_frz_nm, ↓wM_op2, ↓wM_op2T, ↓wO_gB, ↓wM_op1, ↓wM_nil, ↓wM_cons, ↓wM_frzA0, ↓wM_frzA, ↓wM_lookA0, ↓wM_lookA, ↓wM_tup, ↓wM_lst, ↓wM_B, ↓wM_isi, ↓wM_me, ↓wM_sl, ↓wM_noP, ↓wM_part, ↓wM_key, ↓wM_call, ↓wM_argSA0, ↓wM_argSA, ↓wM_argS_fz, ↓wM_argS_ow, ↓wM_argS_nm, ↓wM_mut, ↓wM_yes, ↓wM_rng1, ↓wM_rng2, ↓wM_wkV, ↓wM_wkT, ↓wM_wkL, ↓wM_wk2, ↓wM_wkB, ↓wM_wkC, ↓wM_wkS, ↓wM_wk1, ↓wM_wkLc, ↓wM_wkIf, ↓wM_wkLR, ↓wM_rng3, ↓wM_zip, ↓wM_rga1, ↓wM_rga2, ↓wM_lrg, ↓wM_trg, ↓wM_not, ↓wM_tru, ↓wM_and, ↓wM_or, ↓wM_andV, ↓wM_orV, ↓wM_notV, ↓wM_ifE, ↓wM_chain, ↓wM_chainT, ↓wM_dispN, ↓wM_pairs0, ↓wM_pairs, ↓wM_new, ↓wO_gsC, ↓wS_seq, ↓wS_pass, ↓wS_brk, ↓wS_cnt, ↓wS_ret, ↓wS_drop, ↓wS_if, ↓wS_set, ↓wS_asg, ↓wS_par, ↓wS_put, ↓wS_augS, ↓wS_aug, ↓wM_run', wO_some, varK_fz, varK_ow, varK_lk, lookK_fz, lookK_ow, lookK_lk, frzK_fz, frzK_ow, frzK_lk, argK_fz, argK_owt, argK_owf, argK_lkt, argK_lkf, mutK_ow', mutO_ow, putK'_ow, getK_ow, fzO_fz, augK_fz, intD_int, retK_fz, retK_ow, retK_nm, retO_fz, retO_ow, retO_lk, setR_fz, setR_ow, setR_nm, setK_fz, setK_ow, setK_lk, tru_b, tru_n, tru_l, tru_t, key_i, key_s, gIAdd_ii, gISub_ii, gPow_18, gN_ok, gsN_ok, gT_ok, setQs_nil, setQs_fz, setQs_ow, outP_t, outP_f, outP_n, wkO_fz, wkO_ow, wkO_lk, wk_fz, wk_ow, wk_nm, items_l, items_t, unl_none, unl_some, unlK_lk, callK_R, callR_fz, callR_ow, rest_nil, rest_cons, restK_some, wipe_nil, wipe_cons, gAdd_ii, gSub_ii, gMul_l, gMul_r, gDiv_ii, gMod_ii, gNeg_i, gEq_ii, gEq_ss, gEq_bb, gNe_ii, gNe_ss, gLt_ii, gLe_ii, gGt_ii, gGe_ii, gIx_l0, gIx_t0, gIx_l1, gIx_t1, gIx_l2, gIx_t2, gIx_t3, gIx_tz, gRev_l, gRev_t, zipD_ll, zipD_tl, zipD_lt, zipD_tt, int1_ok, int2_ok, gLen_l, gLen_t, gLen_d, gAbs_i, gAppend_l, gExtend_l, gInt_i, gTuple_l, gTuple_t, gList_l, gList_t, gMax_ii, gMin_ii, gSum_l, gIs_none, isLst, isT, isOw, List.getElem?_cons_zero, List.getElem?_cons_succ, List.length_cons, List.length_nil, List.cons_append, List.nil_append, List.replicate, List.set_cons_zero, List.set_cons_succ, true_and, and_true, if_true, List.map_cons, List.map_nil, Nat.reduceAdd, Nat.reduceSub, Nat.reduceLT, Nat.reduceLeDiff, List.length_set, List.length_map, List.length_append, List.length_range, reduceIte, reduceDIte, Bool.false_eq_true, slotOf, wb, Option.getD_some, nmOk, heldR, List.all_cons, List.all_nil, List.any_cons, List.any_nil, isNm, Bool.and_true, Bool.true_and, Bool.false_and, Bool.and_false, Bool.not_false, Bool.not_true, Bool.or_false, encP]
  have A5 : gAdd (.tuple [encP x0]) (.tuple (r.map fun t => encP (t.1 + by_, t.2))) = some (.fz (.tuple ((shf one by_).map encP))) := by
    rw [gAdd_tt (by simp only [List.length_map, List.length_cons, List.length_nil, sizeLine_eq]; omega), hsh, List.map_cons, List.map_map]; rfl
  simp (disch := first | omega | (simp only [List.length_map, List.length_append, List.length_cons, List.length_nil, List.length_set, List.length_range, sizeLine_eq]; done) | (simp only [List.length_map, List.length_append, List.length_cons, List.length_nil, List.length_set, List.length_range, sizeLine_eq]; omega)) only [↓wM_bd, ↓wM_pr, ↓wM_opt, ↓wM_C, ↓wM_var, ↓wM_look_fz, ↓wM_look_ow, ↓wM_look_nm, ↓wM_frz_fz, ↓wM_frz_ow, ↓wM_frz_nm, ↓wM_op2, ↓wM_op2T, ↓wO_gB, ↓wM_op1, ↓wM_nil, ↓wM_cons, ↓wM_frzA0, ↓wM_frzA, ↓wM_lookA0, ↓wM_lookA, ↓wM_tup, ↓wM_lst, ↓wM_B, ↓wM_isi, ↓wM_me, ↓wM_sl, ↓wM_noP, ↓wM_part, ↓wM_key, ↓wM_call, ↓wM_argSA0, ↓wM_argSA, ↓wM_argS_fz, ↓wM_argS_ow, ↓wM_argS_nm, ↓wM_mut, ↓wM_yes, ↓wM_rng1, ↓wM_rng2, ↓wM_wkV, ↓wM_wkT, ↓wM_wkL, ↓wM_wk2, ↓wM_wkB, ↓wM_wkC, ↓wM_wkS, ↓wM_wk1, ↓wM_wkLc, ↓wM_wkIf, ↓wM_wkLR, ↓wM_rng3, ↓wM_zip, ↓wM_rga1, ↓wM_rga2, ↓wM_lrg, ↓wM_trg, ↓wM_not, ↓wM_tru, ↓wM_and, ↓wM_or, ↓wM_andV, ↓wM_orV, ↓wM_notV, ↓wM_ifE, ↓wM_chain, ↓wM_chainT, ↓wM_dispN, ↓wM_pairs0, ↓wM_pairs, ↓wM_new, ↓wO_gsC, ↓wS_seq, ↓wS_pass, ↓wS_brk, ↓wS_cnt, ↓wS_ret, ↓wS_drop, ↓wS_if, ↓wS_set, ↓wS_asg, ↓wS_par, ↓wS_put, ↓wS_augS, ↓wS_aug, ↓wM_run', wO_some, varK_fz, varK_ow, varK_lk, lookK_fz, lookK_ow, lookK_lk, frzK_fz, frzK_ow, frzK_lk, argK_fz, argK_owt, argK_owf, argK_lkt, argK_lkf, mutK_ow', mutO_ow, putK'_ow, getK_ow, fzO_fz, augK_fz, intD_int, retK_fz, retK_ow, retK_nm, retO_fz, retO_ow, retO_lk, setR_fz, setR_ow, setR_nm, setK_fz, setK_ow, setK_lk, tru_b, tru_n, tru_l, tru_t, key_i, key_s, gIAdd_ii, gISub_ii, gPow_18, gN_ok, gsN_ok, gT_ok, setQs_nil, setQs_fz, setQs_ow, outP_t, outP_f, outP_n, wkO_fz, wkO_ow, wkO_lk, wk_fz, wk_ow, wk_nm, items_l, items_t, unl_none, unl_some, unlK_lk, callK_R, callR_fz, callR_ow, rest_nil, rest_cons, restK_some, wipe_nil, wipe_cons, gAdd_ii, gSub_ii, gMul_l, gMul_r, gDiv_ii, gMod_ii, gNeg_i, gEq_ii, gEq_ss, gEq_bb, gNe_ii, gNe_ss, gLt_ii, gLe_ii, gGt_ii, gGe_ii, gIx_l0, gIx_t0, gIx_l1, gIx_t1, gIx_l2, gIx_t2, gIx_t3, gIx_tz, gRev_l, gRev_t, zipD_ll, zipD_tl, zipD_lt, zipD_tt, int1_ok, int2_ok, gLen_l, gLen_t, gLen_d, gAbs_i, gAppend_l, gExtend_l, gInt_i, gTuple_l, gTuple_t, gList_l, gList_t, gMax_ii, gMin_ii, gSum_l, gIs_none, isLst, isT, isOw, List.getElem?_cons_zero, List.getElem?_cons_succ, List.length_cons, List.length_nil, List.cons_append, List.nil_append, List.replicate, List.set_cons_zero, List.set_cons_succ, true_and, and_true, if_true, List.map_cons, List.map_nil, Nat.reduceAdd, Nat.reduceSub, Nat.reduceLT, Nat.reduceLeDiff, List.length_set, List.length_map, List.length_append, List.length_range, reduceIte, reduceDIte, Bool.false_eq_true, slotOf, wb, Option.getD_some, nmOk, heldR, List.all_cons, List.all_nil, List.any_cons, List.any_nil, isNm, Bool.and_true, Bool.true_and, Bool.false_and, Bool.and_false, Bool.not_false, Bool.not_true, Bool.or_false, A5, e7]
  exact ⟨_, _, _, _, _, _, _, _, _, _, _, _, _, _, rfl⟩
end Lawk39

open PySem PySem.W PyProof.Rows
set_option maxHeartbeats 0 in
theorem PySem.Challenge.cw_amendwarrant_k39_steps_of_rates_holds : PySem.Challenge.rw_amendwarrant_k39_steps_of_rates.Holds := by
  w_on; o_law; k_head; (case hw => w_witness2)
  k_fill
  refine L2.walk_of (l := PySem.Challenge.rw_amendwarrant_k39_steps_of_rates) (n := 63) (k := 7) (x := "script") (CX := fun _ => L2.CX0) (sp := fun _ => DL.spL) rfl (by decide) rfl ⟨rfl, by decide, by decide⟩ (fun w h Y => PySem.W.kIn_of Y) ?F ?hsp (fun _ _ _ _ _ h => h)
  case hsp => exact fun w H a ns hl _ hS => DL.spL_of hS hl (by kernel_rfl)
  case F =>
    intro w mg fa h KX G hmg
    refine DL.law_end Lawk39.law_ok ?_
    refine' Lawk39.all_mk KX G hmg ?a1 ?l1 ?c1 ?k1 ?a2 ?l2 ?c2 ?k2 ?a3 ?l3 ?c3 ?k3 ?a4 ?l4 ?c4 ?k4 ?a5 ?l5 ?c5 ?k5 ?a6 ?l6 ?c6 ?k6 ?a7 ?l7 ?c7 ?k7 ?a8 ?l8 ?c8 ?k8 ?a9 ?l9 ?c9 ?k9 ?a10 ?l10 ?c10 ?k10 ?a11 ?l11 ?c11 ?k11 ?a12 ?l12 ?c12 ?k12 ?a13 ?l13 ?c13 ?k13 ?a14 ?l14 ?c14 ?k14 ?a15 ?l15 ?c15 ?k15 ?z1 ?z2 ?z3 ?z4 ?z5 ?z6 ?z7 ?z8 ?z9 ?z10 ?z11 ?z12 ?z13 ?z14
    (case a1 => k_is); (case l1 => k_is); (case c1 => k_is); (case k1 => k_is); (case a2 => k_is); (case l2 => k_is); (case c2 => k_is); (case k2 => k_is); (case a3 => k_is); (case l3 => k_is); (case c3 => k_is); (case k3 => k_is); (case a4 => k_is); (case l4 => k_is); (case c4 => k_is); (case k4 => k_is); (case a5 => k_is); (case l5 => k_is); (case c5 => k_is); (case k5 => k_is); (case a6 => k_is); (case l6 => k_is); (case c6 => k_is); (case k6 => k_is); (case a7 => k_is); (case l7 => k_is); (case c7 => k_is); (case k7 => k_is); (case a8 => k_is); (case l8 => k_is); (case c8 => k_is); (case k8 => k_is); (case a9 => k_is); (case l9 => k_is); (case c9 => k_is); (case k9 => k_is); (case a10 => k_is); (case l10 => k_is); (case c10 => k_is); (case k10 => k_is); (case a11 => k_is); (case l11 => k_is); (case c11 => k_is); (case k11 => k_is); (case a12 => k_is); (case l12 => k_is); (case c12 => k_is); (case k12 => k_is); (case a13 => k_is); (case l13 => k_is); (case c13 => k_is); (case k13 => k_is); (case a14 => k_is); (case l14 => k_is); (case c14 => k_is); (case k14 => k_is); (case a15 => k_is); (case l15 => k_is); (case c15 => k_is); (case k15 => k_is); (case z1 => k_is); (case z2 => k_is); (case z3 => k_is); (case z4 => k_is); (case z5 => k_is); (case z6 => k_is); (case z7 => k_is); (case z8 => k_is); (case z9 => k_is); (case z10 => k_is); (case z11 => k_is); (case z12 => k_is); (case z13 => k_is); (case z14 => k_is)

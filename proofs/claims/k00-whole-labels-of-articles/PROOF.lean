import PyProof.Rows.All
import Wide.All
import OpenK.AllK
import Wide.FinOn
import PySem.Challenge.RW_amendwarrant_k00_whole_labels_of_article
import HandS.ForMost
import KE.KeyNested
import HandS.TupAny
import HandS.Deep
import HandS.IsInst
import HandS.Wide
import KE.DataCmp
import KE.SortData
import HandS.TupLen
import HandS.More
import HandS.Flow
import HandS.TupLe
import HandS.Small
import HandS.Style
import HandS.Conv
import HandS.Codes
import HandS.Iter
import HandS.Dict
import HandS.Zip
import KE.GoesMore
import KE.GoesZip
import KE.KTurns
import HandS.SetFor
import HandS.Strs
import HandS.SetKeys
import HandS.ListItems
import HandS.DictTup
import KE.KEqNest
import KE.DataMinMax
import PyProof.SeqIndex
import KE.KDictPairs
import KE.DataFind
import HandS.SortKw
import KE.SortKeyHeap
import PyProof.ListStr
set_option Elab.async false
set_option linter.all false
set_option maxRecDepth 100000
/-! DL: a layer of plain data over the hand layer. -/
namespace DL
open PySem PySem.Spec PyProof.Rows L2
abbrev SS := L2.St
/-- the module's fragment and the world -/
structure KW where
  k : PySem.W.Frag
  w : World
instance : CoeOut KW PySem.W.Frag := ⟨KW.k⟩
end DL
abbrev L2.Cx.kw (X : L2.Cx) : DL.KW := ⟨X.K, X.w⟩
namespace DL
open PySem PySem.Spec PyProof.Rows L2
abbrev D := PyData
/-- what a slot holds: nothing known, a value for good, a list or dict that this slot alone holds, one that is being walked -/
inductive Sl where
  | em | fz (d : D) | ow (d : D) | lk (d : D)
/-- what an expression gives: a value for good, a new list or dict, what slot i holds -/
inductive Rs where
  | fz (d : D) | ow (d : D) | nm (i : Nat)
inductive R (α : Type) where
  | ok (a : α) (ρ : List Sl) | bad
abbrev M (α : Type) := List Sl → R α
def bd {α β : Type} (m : M α) (k : α → M β) : M β := fun ρ => match m ρ with
  | .ok a ρ' => k a ρ'
  | .bad => .bad
def pr {α : Type} (a : α) : M α := fun ρ => .ok a ρ
def opt {α : Type} (o : Option α) : M α := fun ρ => match o with
  | some a => .ok a ρ
  | none => .bad
inductive SR where
  | nx (ρ : List Sl) | rt (r : Rs) (ρ : List Sl) | bk (ρ : List Sl) | ct (ρ : List Sl) | bad
abbrev DS := List Sl → SR
/-! ### values -/
def kD : Key → D
  | .inl i => .int i
  | .inr x => .str x
/-- a tuple that has no dict of its own -/
def TupD (K : KW) (F : Hp) (a : Addr) (xs : List V) : Prop := (∃ o, F a = some (.frz o (.tup xs)) ∧ o.dict = none) ∨
  ∃ (o : Obj) (its : Array Value) (n : Nat), K.k.lookup a = some o ∧ o.cls = .type "tuple" ∧ o.dict = none ∧ o.data = .seq its n ∧ its.size ≤ sizeLine ∧ Vals xs its.toList
theorem TupD.sq {K : KW} {F : Hp} {a : Addr} {xs : List V} (h : TupD K F a xs) : SqT K.k F a xs := by
  rcases h with ⟨o, h, _⟩ | ⟨o, its, n, h1, h2, _, h3, h4⟩
  · exact .inl (.inr ⟨o, h⟩)
  · exact .inr ⟨o, its, n, h1, h2, h3, h4⟩
theorem tupD_mono {K : KW} {F F' : Hp} {a : Addr} {xs : List V} (e : Same F F') (h : TupD K F a xs) : TupD K F' a xs := by
  rcases h with ⟨o, h, q⟩ | h
  · exact .inl ⟨o, e _ _ h, q⟩
  · exact .inr h
/-! dicts whose keys are tuples -/
abbrev NK := NestedKey
abbrev kN : NK → D := NestedKey.data
def RawX (w : World) (a : Addr) (xs : List (NK × Addr × V)) (h : Heap) : Prop := xs.length ≤ sizeLine ∧ (∀ x ∈ xs, x.1.depth ≤ 8) ∧ (a == sysModules) = false ∧ ∃ us : List (NK × Addr × Value),
  Paired (fun (p : NK × Addr × V) (q : NK × Addr × Value) => p.1 = q.1 ∧ p.2.1 = q.2.1 ∧ RelV p.2.2 q.2.2) xs us ∧
  ∃ o es ep, h.get? a = some o ∧ o.ExactDict ∧ o.data = .dict es ep ∧ es.toList = us.map (fun x => ⟨x.1.hash w, .ref x.2.1, x.2.2⟩) ∧ (us.map (·.1)).Nodup
def dX (w : World) (a : Addr) (xs : List (NK × Addr × V)) : HO := .ext (RawX w a xs)
def tagT (ks : List NK) (ds : List D) : List (D × D) := (.none, .none) :: List.zip (ks.map kN) ds
def isK : List (D × D) → Bool
  | (.none, _) :: _ => false
  | _ => true
theorem isK_tag {ks : List NK} {ds : List D} : isK (tagT ks ds) = false := rfl
mutual
inductive Rp (K : KW) (F : Hp) : V → D → Prop
  | non : Rp K F .non .none
  | bl (b : Bool) : Rp K F (.bl b) (.bool b)
  | int (i : Int) : Rp K F (.int i) (.int i)
  | str (x : Str) : Rp K F (.str x) (.str x)
  | lst {a : Addr} {xs : List V} {ds : List D} : Rd F a (.lst xs) → RpA K F xs ds → Rp K F (.ref a) (.list ds)
  | tup {a : Addr} {xs : List V} {ds : List D} : TupD K F a xs → RpA K F xs ds → Rp K F (.ref a) (.tuple ds)
  | tdct {a : Addr} {xs : List (NK × Addr × V)} {ds : List D} : Rd F a (dX K.w a xs) → RpA K F (xs.map fun x => V.ref x.2.1) (xs.map fun x => kN x.1) → RpA K F (xs.map fun x => x.2.2) ds → Rp K F (.ref a) (.dict (tagT (xs.map (·.1)) ds))
  | dct {a : Addr} {kvs : List (Key × V)} {ds : List (D × D)} : Rd F a (.dK kvs) → RpK K F kvs ds → Rp K F (.ref a) (.dict ds)
inductive RpA (K : KW) (F : Hp) : List V → List D → Prop
  | nil : RpA K F [] []
  | cons {v : V} {vs : List V} {d : D} {ds : List D} : Rp K F v d → RpA K F vs ds → RpA K F (v :: vs) (d :: ds)
inductive RpK (K : KW) (F : Hp) : List (Key × V) → List (D × D) → Prop
  | nil : RpK K F [] []
  | cons {k : Key} {v : V} {vs : List (Key × V)} {d : D} {ds : List (D × D)} : Rp K F v d → RpK K F vs ds → RpK K F ((k, v) :: vs) ((kD k, d) :: ds)
end
theorem rd_mono {F F' : Hp} {a : Addr} {u : HO} (e : Same F F') (h : Rd F a u) : Rd F' a u := by
  rcases h with h | ⟨o, h⟩
  · exact .inl (e _ _ h)
  · exact .inr ⟨o, e _ _ h⟩
theorem sqT_mono {K : KW} {F F' : Hp} {a : Addr} {xs : List V} (e : Same F F') (h : SqT K F a xs) : SqT K F' a xs := by
  rcases h with (h | ⟨o, h⟩) | h
  · exact .inl (.inl (e _ _ h))
  · exact .inl (.inr ⟨o, e _ _ h⟩)
  · exact .inr h
mutual
theorem Rp.mono {K : KW} {F F' : Hp} (e : Same F F') : ∀ {v : V} {d : D}, Rp K F v d → Rp K F' v d
  | _, _, .non => .non
  | _, _, .bl b => .bl b
  | _, _, .int i => .int i
  | _, _, .str x => .str x
  | _, _, .lst h t => .lst (rd_mono e h) (RpA.mono e t)
  | _, _, .tup h t => .tup (tupD_mono e h) (RpA.mono e t)
  | _, _, .tdct h t u => .tdct (rd_mono e h) (RpA.mono e t) (RpA.mono e u)
  | _, _, .dct h t => .dct (rd_mono e h) (RpK.mono e t)
theorem RpA.mono {K : KW} {F F' : Hp} (e : Same F F') : ∀ {v : List V} {d : List D}, RpA K F v d → RpA K F' v d
  | _, _, .nil => .nil
  | _, _, .cons h t => .cons (Rp.mono e h) (RpA.mono e t)
theorem RpK.mono {K : KW} {F F' : Hp} (e : Same F F') : ∀ {v : List (Key × V)} {d : List (D × D)}, RpK K F v d → RpK K F' v d
  | _, _, .nil => .nil
  | _, _, .cons h t => .cons (Rp.mono e h) (RpK.mono e t)
end
section
variable {K : KW} {F F' H H' : Hp}
theorem RpA.length : ∀ {vs : List V} {ds : List D}, RpA K F vs ds → vs.length = ds.length
  | _, _, .nil => rfl
  | _, _, .cons _ t => by rw [List.length_cons, List.length_cons, t.length]
theorem RpA.get : ∀ {vs : List V} {ds : List D} {i : Nat} {v : V} {d : D}, RpA K F vs ds → vs[i]? = some v → ds[i]? = some d → Rp K F v d
  | _, _, _, _, _, .nil, h, _ => by simp at h
  | _, _, 0, _, _, .cons h _, e, e' => by
    simp at e e'
    rw [← e, ← e']; exact h
  | _, _, i + 1, _, _, .cons _ t, e, e' => t.get (i := i) (by simpa using e) (by simpa using e')
theorem RpA.app : ∀ {vs vs' : List V} {ds ds' : List D}, RpA K F vs ds → RpA K F vs' ds' → RpA K F (vs ++ vs') (ds ++ ds')
  | _, _, _, _, .nil, h => h
  | _, _, _, _, .cons h t, h' => .cons h (t.app h')
theorem RpA.one {v : V} {d : D} (h : Rp K F v d) : RpA K F [v] [d] := .cons h .nil
theorem RpA.drop : ∀ {vs : List V} {ds : List D} (n : Nat), RpA K F vs ds → RpA K F (vs.drop n) (ds.drop n)
  | _, _, 0, h => h
  | _, _, _ + 1, .nil => .nil
  | _, _, n + 1, .cons _ t => t.drop n
theorem RpA.take : ∀ {vs : List V} {ds : List D} (n : Nat), RpA K F vs ds → RpA K F (vs.take n) (ds.take n)
  | _, _, 0, _ => .nil
  | _, _, _ + 1, .nil => .nil
  | _, _, n + 1, .cons h t => .cons h (t.take n)
theorem RpA.set {i : Nat} {v : V} {d : D} (h : Rp K F v d) : ∀ {vs : List V} {ds : List D} (i : Nat), RpA K F vs ds → RpA K F (vs.set i v) (ds.set i d)
  | _, _, _, .nil => .nil
  | _, _, 0, .cons _ t => .cons h t
  | _, _, i + 1, .cons q t => .cons q (RpA.set (i := i) h i t)
theorem RpA.ints : ∀ {vs : List V} {ns : List Int}, RpA K F vs (ns.map .int) → vs = ns.map .int
  | _, [], h => by cases h; rfl
  | _, n :: ns, h => by
    cases h with
    | cons h t => cases h; rw [List.map_cons, t.ints]
theorem RpA.of_ints : ∀ (ns : List Int), RpA K F (ns.map .int) (ns.map .int)
  | [] => .nil
  | n :: ns => .cons (.int n) (RpA.of_ints ns)
theorem RpK.length : ∀ {vs : List (Key × V)} {ds : List (D × D)}, RpK K F vs ds → vs.length = ds.length
  | _, _, .nil => rfl
  | _, _, .cons _ t => by rw [List.length_cons, List.length_cons, t.length]
theorem isK_rp {kvs : List (Key × V)} {ds : List (D × D)} (h : RpK K F kvs ds) : isK ds = true := by
  cases h with
  | nil => rfl
  | cons h t => rename_i k _ _ _ _; cases k <;> rfl
/-- the dict with tuple keys at a, as it stands now -/
def ObT (K : KW) (F H : Hp) (a : Addr) (ds : List (D × D)) : Prop := ∃ (xs : List (NK × Addr × V)) (es : List D), H a = some (dX K.w a xs) ∧ RpA K F (xs.map fun x => V.ref x.2.1) (xs.map fun x => kN x.1) ∧ RpA K F (xs.map fun x => x.2.2) es ∧ ds = tagT (xs.map (·.1)) es
/-- the list or dict at a, as it stands now -/
def Ob (K : KW) (F H : Hp) (a : Addr) : D → Prop
  | .list ds => ∃ vs, H a = some (.lst vs) ∧ RpA K F vs ds
  | .dict ds => (∃ kvs, H a = some (.dK kvs) ∧ RpK K F kvs ds) ∨ ObT K F H a ds
  | _ => False
theorem Ob.some {a : Addr} {d : D} (h : Ob K F H a d) : ∃ o, H a = some o := by
  cases d with
  | list ds => obtain ⟨vs, e, _⟩ := h; exact ⟨_, e⟩
  | dict ds =>
    rcases h with ⟨vs, e, _⟩ | ⟨xs, es, e, _⟩
    · exact ⟨_, e⟩
    · exact ⟨_, e⟩
  | _ => exact h.elim
theorem Ob.ne {a : Addr} {d : D} (h : Ob K F H a d) : H a ≠ none := by
  obtain ⟨o, e⟩ := h.some
  rw [e]; exact fun z => nomatch z
theorem Ob.mono {a : Addr} {d : D} (h : Ob K F H a d) (e : Same F F') (eh : H' a = H a) : Ob K F' H' a d := by
  cases d with
  | list ds => obtain ⟨vs, q, r⟩ := h; exact ⟨vs, eh.trans q, r.mono e⟩
  | dict ds =>
    rcases h with ⟨vs, q, r⟩ | ⟨xs, es, q, r1, r2, r3⟩
    · exact .inl ⟨vs, eh.trans q, r.mono e⟩
    · exact .inr ⟨xs, es, eh.trans q, r1.mono e, r2.mono e, r3⟩
  | _ => exact h.elim
/-- frozen: the object is among the frozen ones -/
theorem Ob.rp {a : Addr} {d : D} (h : Ob K F H a d) (e : Same F F') (ef : F' a = H a) : Rp K F' (.ref a) d := by
  cases d with
  | list ds => obtain ⟨vs, q, r⟩ := h; exact .lst (.inl (ef.trans q)) (r.mono e)
  | dict ds =>
    rcases h with ⟨vs, q, r⟩ | ⟨xs, es, q, r1, r2, r3⟩
    · exact .dct (.inl (ef.trans q)) (r.mono e)
    · subst r3; exact .tdct (.inl (ef.trans q)) (r1.mono e) (r2.mono e)
  | _ => exact h.elim
/-! ### the state -/
def SltR (K : KW) (F H : Hp) (ov : Option (Option V)) : Sl → Prop
  | .em => True
  | .fz d => ∃ v, ov = some (some v) ∧ Rp K F v d
  | .ow d => ∃ a, ov = some (some (.ref a)) ∧ F a = none ∧ Ob K F H a d
  | .lk d => ∃ a, ov = some (some (.ref a)) ∧ F a = none ∧ Ob K F H a d
def OwAt (σ : SS) (ρ : List Sl) (i : Nat) (a : Addr) : Prop := σ[i]? = some (some (.ref a)) ∧ ∃ d, ρ[i]? = some (.ow d)
def LkAt (σ : SS) (ρ : List Sl) (i : Nat) (a : Addr) : Prop := σ[i]? = some (some (.ref a)) ∧ ∃ d, ρ[i]? = some (.lk d)
def HdAt (σ : SS) (ρ : List Sl) (i : Nat) (a : Addr) : Prop := OwAt σ ρ i a ∨ LkAt σ ρ i a
structure Sta (K : KW) (F H : Hp) (σ : SS) (ρ : List Sl) : Prop where
  le : Same F H
  len : σ.length = ρ.length
  sl : ∀ (i : Nat) (s : Sl), ρ[i]? = some s → SltR K F H σ[i]? s
  dj : ∀ (i j : Nat) (a : Addr), HdAt σ ρ i a → HdAt σ ρ j a → i = j
structure Ext (K : KW) (F H : Hp) (σ : SS) (ρ : List Sl) (F' H' : Hp) (σ' : SS) (ρ' : List Sl) : Prop where
  st : Sta K F' H' σ' ρ'
  fr : Same F F'
  kp : ∀ b o, H b = some o → (∀ i, ¬ OwAt σ ρ i b) → H' b = some o
  nf : ∀ b, H b ≠ none → (∀ i, ¬ HdAt σ ρ i b) → F b = none → F' b = none
  gr : ∀ b, H b ≠ none → H' b ≠ none
  ow : ∀ i b, OwAt σ' ρ' i b → OwAt σ ρ i b ∨ H b = none
  lk : ∀ i b, LkAt σ' ρ' i b → HdAt σ ρ i b ∨ H b = none
section
variable {σ σ' σ2 : SS} {ρ ρ' ρ2 : List Sl} {F2 H2 : Hp}
theorem Sta.held (h : Sta K F H σ ρ) {i : Nat} {a : Addr} (e : HdAt σ ρ i a) : F a = none ∧ ∃ d, Ob K F H a d := by
  rcases e with ⟨e, d, q⟩ | ⟨e, d, q⟩
  · obtain ⟨b, e1, e2, e3⟩ := h.sl i _ q
    rw [e] at e1; cases e1
    exact ⟨e2, d, e3⟩
  · obtain ⟨b, e1, e2, e3⟩ := h.sl i _ q
    rw [e] at e1; cases e1
    exact ⟨e2, d, e3⟩
theorem Ext.refl (h : Sta K F H σ ρ) : Ext K F H σ ρ F H σ ρ :=
  ⟨h, Same.refl _, fun _ _ e _ => e, fun _ _ _ e => e, fun _ e => e, fun _ _ e => .inl e, fun _ _ e => .inl (.inr e)⟩
theorem Ext.hd (x : Ext K F H σ ρ F' H' σ' ρ') {i : Nat} {b : Addr} (h : HdAt σ' ρ' i b) : HdAt σ ρ i b ∨ H b = none := by
  rcases h with h | h
  · exact (x.ow i b h).imp .inl id
  · exact x.lk i b h
theorem Ext.back (x : Ext K F H σ ρ F' H' σ' ρ') {b : Addr} (h : H' b = none) : H b = none := by
  cases e : H b with
  | none => rfl
  | some o => exact absurd h (x.gr b (by rw [e]; exact fun z => nomatch z))
theorem Ext.trans (x : Ext K F H σ ρ F' H' σ' ρ') (y : Ext K F' H' σ' ρ' F2 H2 σ2 ρ2) : Ext K F H σ ρ F2 H2 σ2 ρ2 where
  st := y.st
  fr := x.fr.trans y.fr
  kp := fun b o e n => y.kp b o (x.kp b o e n) fun i q => by
    rcases x.ow i b q with z | z
    · exact n i z
    · rw [z] at e; cases e
  nf := fun b e n q => y.nf b (x.gr b e) (fun i z => by
    rcases x.hd z with z | z
    · exact n i z
    · exact e z) (x.nf b e n q)
  gr := fun b e => y.gr b (x.gr b e)
  ow := fun i b q => by
    rcases y.ow i b q with z | z
    · exact x.ow i b z
    · exact .inr (x.back z)
  lk := fun i b q => by
    rcases y.lk i b q with z | z
    · exact x.hd z
    · exact .inr (x.back z)
/-! ### results -/
def RsR (K : KW) (H₀ F H : Hp) (σ : SS) (ρ : List Sl) (v : V) : Rs → Prop
  | .fz d => Rp K F v d
  | .ow d => ∃ a, v = .ref a ∧ H₀ a = none ∧ F a = none ∧ Ob K F H a d ∧ ∀ i, ¬ HdAt σ ρ i a
  | .nm i => σ[i]? = some (some v)
theorem RsR.ext {H₀ : Hp} {v : V} {r : Rs} (h : RsR K H₀ F H σ ρ v r) (x : Ext K F H σ ρ F' H' σ ρ') : RsR K H₀ F' H' σ ρ' v r := by
  cases r with
  | fz d => exact Rp.mono x.fr h
  | nm i => exact h
  | ow d =>
    obtain ⟨a, e, h0, hf, ho, hd⟩ := h
    obtain ⟨o, eo⟩ := ho.some
    have ek := x.kp a o eo fun i q => hd i (.inl q)
    refine ⟨a, e, h0, x.nf a ho.ne hd hf, ho.mono x.fr (ek.trans eo.symm), fun i q => ?_⟩
    rcases x.hd q with z | z
    · exact hd i z
    · exact ho.ne z
theorem RsR.base {H₀ H₁ : Hp} {v : V} {r : Rs} (h : RsR K H₁ F H σ ρ v r) (b : ∀ a, H₁ a = none → H₀ a = none) : RsR K H₀ F H σ ρ v r := by
  cases r with
  | fz d => exact h
  | nm i => exact h
  | ow d =>
    obtain ⟨a, e, h0, q⟩ := h
    exact ⟨a, e, b a h0, q⟩
/-! ### reading and freezing what a result is -/
def look (r : Rs) : M D := fun ρ => match r with
  | .fz d => .ok d ρ
  | .ow d => .ok d ρ
  | .nm i => match ρ[i]? with
    | some (.fz d) => .ok d ρ
    | some (.ow d) => .ok d ρ
    | some (.lk d) => .ok d ρ
    | _ => .bad
def frz (r : Rs) : M D := fun ρ => match r with
  | .fz d => .ok d ρ
  | .ow d => .ok d ρ
  | .nm i => match ρ[i]? with
    | some (.fz d) => .ok d ρ
    | some (.ow d) => .ok d (ρ.set i (.fz d))
    | some (.lk d) => .ok d (ρ.set i (.fz d))
    | _ => .bad
/-- v reads as d now -/
def Vw (K : KW) (F H : Hp) (v : V) (d : D) : Prop := Rp K F v d ∨ ∃ a, v = .ref a ∧ Ob K F H a d
theorem look_ok {H₀ : Hp} {v : V} {r : Rs} {d : D} (s : Sta K F H σ ρ) (h : RsR K H₀ F H σ ρ v r) (e : look r ρ = .ok d ρ') : ρ' = ρ ∧ Vw K F H v d := by
  cases r with
  | fz d' => cases e; exact ⟨rfl, .inl h⟩
  | ow d' => obtain ⟨a, e1, _, _, ho, _⟩ := h; cases e; exact ⟨rfl, .inr ⟨a, e1, ho⟩⟩
  | nm i =>
    have h : σ[i]? = some (some v) := h
    unfold look at e
    simp only at e
    cases q : ρ[i]? with
    | none => rw [q] at e; cases e
    | some sl =>
      rw [q] at e
      have z := s.sl i sl q
      cases sl with
      | em => cases e
      | fz d' =>
        cases e
        obtain ⟨w, e1, e2⟩ := z
        rw [h] at e1; cases e1
        exact ⟨rfl, .inl e2⟩
      | ow d' =>
        cases e
        obtain ⟨a, e1, e2, e3⟩ := z
        rw [h] at e1; cases e1
        exact ⟨rfl, .inr ⟨a, rfl, e3⟩⟩
      | lk d' =>
        cases e
        obtain ⟨a, e1, e2, e3⟩ := z
        rw [h] at e1; cases e1
        exact ⟨rfl, .inr ⟨a, rfl, e3⟩⟩
theorem same_upd {H : Hp} {p : Addr} {o : HO} (h : H p = none) : Same H (upd H p o) := fun b x e => by
  rw [upd_ne (ne_of_none e h)]
  exact e
theorem same_upd_le {F H : Hp} {p : Addr} {o : HO} (s : Same F H) (e : H p = some o) : Same (upd F p o) H := fun b x q => by
  by_cases hb : b = p
  · subst hb; rw [upd_same] at q; cases q; exact e
  · rw [upd_ne hb] at q; exact s b x q
/-- one held slot is frozen -/
theorem Ext.freeze {F₀ H₀ : Hp} {ρ₀ : List Sl} {i : Nat} {a : Addr} {d : D} {s : Sl} (x : Ext K F₀ H₀ σ' ρ₀ F H σ ρ) (hσ : σ[i]? = some (some (.ref a))) (hρ : ρ[i]? = some s) (hs : s = .ow d ∨ s = .lk d) :
    ∃ F', Ext K F₀ H₀ σ' ρ₀ F' H σ (ρ.set i (.fz d)) ∧ Rp K F' (.ref a) d := by
  have hd : HdAt σ ρ i a := by
    rcases hs with e | e
    · exact .inl ⟨hσ, d, by rw [hρ, e]⟩
    · exact .inr ⟨hσ, d, by rw [hρ, e]⟩
  obtain ⟨hf, ho⟩ : F a = none ∧ Ob K F H a d := by
    have z := x.st.sl i s hρ
    rcases hs with e | e <;> subst e <;> obtain ⟨b, e1, e2, e3⟩ := z <;> rw [hσ] at e1 <;> cases e1 <;> exact ⟨e2, e3⟩
  obtain ⟨o, eo⟩ := ho.some
  have sm : Same F (upd F a o) := same_upd hf
  have hi : i < ρ.length := by
    rcases Nat.lt_or_ge i ρ.length with z | z
    · exact z
    · rw [List.getElem?_eq_none z] at hρ; cases hρ
  have rp : Rp K (upd F a o) (.ref a) d := ho.rp sm (by rw [upd_same, eo])
  have back : ∀ j b, HdAt σ (ρ.set i (.fz d)) j b → HdAt σ ρ j b ∧ j ≠ i := fun j b q => by
    rcases q with ⟨e, d', q⟩ | ⟨e, d', q⟩
    · by_cases hj : i = j
      · subst hj; rw [List.getElem?_set_self hi] at q; cases q
      · rw [List.getElem?_set_ne hj] at q; exact ⟨.inl ⟨e, d', q⟩, fun z => hj z.symm⟩
    · by_cases hj : i = j
      · subst hj; rw [List.getElem?_set_self hi] at q; cases q
      · rw [List.getElem?_set_ne hj] at q; exact ⟨.inr ⟨e, d', q⟩, fun z => hj z.symm⟩
  have backO : ∀ j b, OwAt σ (ρ.set i (.fz d)) j b → OwAt σ ρ j b := fun j b ⟨e, d', q⟩ => by
    by_cases hj : i = j
    · subst hj; rw [List.getElem?_set_self hi] at q; cases q
    · rw [List.getElem?_set_ne hj] at q; exact ⟨e, d', q⟩
  have backL : ∀ j b, LkAt σ (ρ.set i (.fz d)) j b → LkAt σ ρ j b := fun j b ⟨e, d', q⟩ => by
    by_cases hj : i = j
    · subst hj; rw [List.getElem?_set_self hi] at q; cases q
    · rw [List.getElem?_set_ne hj] at q; exact ⟨e, d', q⟩
  refine ⟨upd F a o, ⟨⟨same_upd_le x.st.le eo, by rw [List.length_set]; exact x.st.len, fun j sl q => ?_, fun j k b h1 h2 => x.st.dj j k b (back j b h1).1 (back k b h2).1⟩, x.fr.trans sm, x.kp, fun b e n q => ?_, x.gr, fun j b q => x.ow j b (backO j b q), fun j b q => x.lk j b (backL j b q)⟩, rp⟩
  · by_cases hj : i = j
    · subst hj
      rw [List.getElem?_set_self hi] at q; cases q
      exact ⟨_, hσ, rp⟩
    · have q' := q
      rw [List.getElem?_set_ne hj] at q
      have z := x.st.sl j sl q
      cases sl with
      | em => trivial
      | fz d' => obtain ⟨w, e1, e2⟩ := z; exact ⟨w, e1, e2.mono sm⟩
      | ow d' =>
        obtain ⟨b, e1, e2, e3⟩ := z
        have hb : b ≠ a := fun z => by
          subst z
          exact hj (x.st.dj i j _ hd (.inl ⟨e1, d', q⟩))
        exact ⟨b, e1, by rw [upd_ne hb]; exact e2, e3.mono sm rfl⟩
      | lk d' =>
        obtain ⟨b, e1, e2, e3⟩ := z
        have hb : b ≠ a := fun z => by
          subst z
          exact hj (x.st.dj i j _ hd (.inr ⟨e1, d', q⟩))
        exact ⟨b, e1, by rw [upd_ne hb]; exact e2, e3.mono sm rfl⟩
  · have z := x.nf b e n q
    by_cases hb : b = a
    · subst hb
      rcases x.hd hd with y | y
      · exact absurd y (n i)
      · exact absurd y e
    · rw [upd_ne hb]; exact z
/-- a new object is frozen -/
theorem Ext.freezeNew {F₀ H₀ : Hp} {ρ₀ : List Sl} {a : Addr} {d : D} (x : Ext K F₀ H₀ σ' ρ₀ F H σ ρ) (h0 : H₀ a = none) (hf : F a = none) (ho : Ob K F H a d) (hn : ∀ i, ¬ HdAt σ ρ i a) :
    ∃ F', Ext K F₀ H₀ σ' ρ₀ F' H σ ρ ∧ Rp K F' (.ref a) d ∧ Same F F' ∧ ∀ b, b ≠ a → F' b = F b := by
  obtain ⟨o, eo⟩ := ho.some
  have sm : Same F (upd F a o) := same_upd hf
  have rp : Rp K (upd F a o) (.ref a) d := ho.rp sm (by rw [upd_same, eo])
  refine ⟨upd F a o, ⟨⟨same_upd_le x.st.le eo, x.st.len, fun j sl q => ?_, x.st.dj⟩, x.fr.trans sm, x.kp, fun b e n q => ?_, x.gr, x.ow, x.lk⟩, rp, sm, fun b hb => upd_ne hb⟩
  · have z := x.st.sl j sl q
    cases sl with
    | em => trivial
    | fz d' => obtain ⟨w, e1, e2⟩ := z; exact ⟨w, e1, e2.mono sm⟩
    | ow d' =>
      obtain ⟨b, e1, e2, e3⟩ := z
      have hb : b ≠ a := fun z => by subst z; exact hn j (.inl ⟨e1, d', q⟩)
      exact ⟨b, e1, by rw [upd_ne hb]; exact e2, e3.mono sm rfl⟩
    | lk d' =>
      obtain ⟨b, e1, e2, e3⟩ := z
      have hb : b ≠ a := fun z => by subst z; exact hn j (.inr ⟨e1, d', q⟩)
      exact ⟨b, e1, by rw [upd_ne hb]; exact e2, e3.mono sm rfl⟩
  · have z := x.nf b e n q
    by_cases hb : b = a
    · subst hb; exact absurd h0 e
    · rw [upd_ne hb]; exact z
theorem frz_ok {F₀ H₀ : Hp} {ρ₀ : List Sl} {v : V} {r : Rs} {d : D} (x : Ext K F₀ H₀ σ' ρ₀ F H σ ρ) (h : RsR K H₀ F H σ ρ v r) (e : frz r ρ = .ok d ρ') :
    ∃ F', Ext K F₀ H₀ σ' ρ₀ F' H σ ρ' ∧ Rp K F' v d := by
  cases r with
  | fz d' => cases e; exact ⟨F, x, h⟩
  | ow d' =>
    obtain ⟨a, e1, h0, hf, ho, hn⟩ := h
    cases e
    subst e1
    obtain ⟨F', x', rp, _⟩ := x.freezeNew h0 hf ho hn
    exact ⟨F', x', rp⟩
  | nm i =>
    have h : σ[i]? = some (some v) := h
    unfold frz at e
    simp only at e
    cases q : ρ[i]? with
    | none => rw [q] at e; cases e
    | some sl =>
      rw [q] at e
      have z := x.st.sl i sl q
      cases sl with
      | em => cases e
      | fz d' =>
        cases e
        obtain ⟨w, e1, e2⟩ := z
        rw [h] at e1; cases e1
        exact ⟨F, x, e2⟩
      | ow d' =>
        cases e
        obtain ⟨a, e1, e2, e3⟩ := z
        rw [h] at e1; cases e1
        exact x.freeze h q (.inl rfl)
      | lk d' =>
        cases e
        obtain ⟨a, e1, e2, e3⟩ := z
        rw [h] at e1; cases e1
        exact x.freeze h q (.inr rfl)
end
end
end DL
namespace DL
open PySem PySem.Spec PyProof.Rows L2
theorem peWeak {X : Cx} {e : Expr} {t t' : TE} (h : PE X e t) (w : ∀ σ H Q, t' σ H Q → t σ H Q) : PE X e t' :=
  ⟨fun pins s σ H Q I q => h.run pins s σ H Q I (w σ H Q q)⟩
theorem ptWeak {X : Cx} {e : Expr} {t t' : TT} (h : PT X e t) (w : ∀ σ H Q, t' σ H Q → t σ H Q) : PT X e t' :=
  ⟨fun pins s σ H Q I q => h.run pins s σ H Q I (w σ H Q q)⟩
theorem psWeak {X : Cx} {e : Stmt} {t t' : TS} (h : PS X e t) (w : ∀ D σ H, t' D σ H → t D σ H) : PS X e t' :=
  ⟨fun pins s σ H D I q => h.run pins s σ H D I (w D σ H q)⟩
theorem pssWeak {X : Cx} {e : List Stmt} {t t' : TS} (h : PSs X e t) (w : ∀ D σ H, t' D σ H → t D σ H) : PSs X e t' :=
  ⟨fun pins s σ H D I q => h.run pins s σ H D I (w D σ H q)⟩
theorem paWeak {X : Cx} {e : List Expr} {t t' : TA} (h : PA X e t) (w : ∀ σ H Q, t' σ H Q → t σ H Q) : PA X e t' :=
  ⟨fun pos pins s σ H Q I q => h.run pos pins s σ H Q I (w σ H Q q)⟩
/-! ### readings by a function of slots -/
def tSem (K : KW) (f : M Rs) : TE := fun σ H Q => ∃ F ρ r ρ', Sta K F H σ ρ ∧ f ρ = .ok r ρ' ∧ ∀ F' H' v, Ext K F H σ ρ F' H' σ ρ' → RsR K H F' H' σ ρ' v r → Q v H'
def tSemT (K : KW) (f : M Bool) : TT := fun σ H Q => ∃ F ρ r ρ', Sta K F H σ ρ ∧ f ρ = .ok r ρ' ∧ ∀ F' H', Ext K F H σ ρ F' H' σ ρ' → Q r H'
/-- several results, the new ones apart -/
structure RsA (K : KW) (H₀ F H : Hp) (σ : SS) (ρ : List Sl) (vs : List V) (rs : List Rs) : Prop where
  len : vs.length = rs.length
  at_ : ∀ (i : Nat) (v : V) (r : Rs), vs[i]? = some v → rs[i]? = some r → RsR K H₀ F H σ ρ v r
  dj : ∀ (i j : Nat) (a : Addr) (d e : D), vs[i]? = some (.ref a) → rs[i]? = some (.ow d) → vs[j]? = some (.ref a) → rs[j]? = some (.ow e) → i = j
def tSemA (K : KW) (f : M (List Rs)) : TA := fun σ H Q => ∃ F ρ r ρ', Sta K F H σ ρ ∧ f ρ = .ok r ρ' ∧ ∀ F' H' v, Ext K F H σ ρ F' H' σ ρ' → RsA K H F' H' σ ρ' v r → Q v H'
theorem bd_ok {α β : Type} {m : M α} {k : α → M β} {ρ ρ2 : List Sl} {b : β} (h : bd m k ρ = .ok b ρ2) : ∃ a ρ1, m ρ = .ok a ρ1 ∧ k a ρ1 = .ok b ρ2 := by
  unfold bd at h
  cases e : m ρ with
  | ok a ρ1 => rw [e] at h; exact ⟨a, ρ1, rfl, h⟩
  | bad => rw [e] at h; cases h
theorem opt_ok {α : Type} {o : Option α} {ρ ρ' : List Sl} {a : α} (h : opt o ρ = .ok a ρ') : o = some a ∧ ρ' = ρ := by
  unfold opt at h
  cases o with
  | none => cases h
  | some b => cases h; exact ⟨rfl, rfl⟩
theorem pr_ok {α : Type} {a b : α} {ρ ρ' : List Sl} (h : pr a ρ = .ok b ρ') : b = a ∧ ρ' = ρ := by
  unfold pr at h; cases h; exact ⟨rfl, rfl⟩
section
variable {K : KW} {F H F' H' : Hp} {σ : SS} {ρ ρ' : List Sl}
/-! ### what a built-in may do: the heap grows -/
structure Grow (F H F' H' : Hp) : Prop where
  fr : Same F F'
  le : Same F' H'
  kp : Same H H'
  nf : ∀ b, H b ≠ none → F b = none → F' b = none
theorem Grow.refl (h : Same F H) : Grow F H F H := ⟨Same.refl _, h, Same.refl _, fun _ _ e => e⟩
theorem Grow.trans {F2 H2 : Hp} (a : Grow F H F' H') (b : Grow F' H' F2 H2) : Grow F H F2 H2 := ⟨a.fr.trans b.fr, b.le, a.kp.trans b.kp, fun c e n => b.nf c (fun z => by
  cases q : H c with
  | none => exact e q
  | some o => rw [a.kp c o q] at z; cases z) (a.nf c e n)⟩
theorem Sta.grow (s : Sta K F H σ ρ) (g : Grow F H F' H') : Ext K F H σ ρ F' H' σ ρ := by
  refine ⟨⟨g.le, s.len, fun i sl q => ?_, s.dj⟩, g.fr, fun b o e _ => g.kp b o e, fun b e _ n => g.nf b e n, fun b e => ?_, fun i b q => .inl q, fun i b q => .inl (.inr q)⟩
  · have z := s.sl i sl q
    cases sl with
    | em => trivial
    | fz d => obtain ⟨v, e, r⟩ := z; exact ⟨v, e, r.mono g.fr⟩
    | ow d =>
      obtain ⟨a, e, n, o⟩ := z
      obtain ⟨ob, eo⟩ := o.some
      exact ⟨a, e, g.nf a o.ne n, o.mono g.fr ((g.kp a ob eo).trans eo.symm)⟩
    | lk d =>
      obtain ⟨a, e, n, o⟩ := z
      obtain ⟨ob, eo⟩ := o.some
      exact ⟨a, e, g.nf a o.ne n, o.mono g.fr ((g.kp a ob eo).trans eo.symm)⟩
  · cases q : H b with
    | none => exact absurd q e
    | some o => rw [g.kp b o q]; exact fun z => nomatch z
/-- what a built-in hands back -/
def ResOk (K : KW) (H₀ F H : Hp) (v : V) : Rs → Prop
  | .fz d => Rp K F v d
  | .ow d => ∃ a, v = .ref a ∧ H₀ a = none ∧ F a = none ∧ Ob K F H a d
  | .nm _ => False
def NewR (K : KW) (F H : Hp) (r : Rs) (Q : VK) : Prop := ∀ F' H' v, Grow F H F' H' → ResOk K H F' H' v r → Q v H'
theorem Sta.res {H₀ : Hp} {v : V} {r : Rs} (s : Sta K F H σ ρ) (g : Grow F H F' H') (h : ResOk K H F' H' v r) (b : ∀ a, H a = none → H₀ a = none) : RsR K H₀ F' H' σ ρ v r := by
  cases r with
  | fz d => exact h
  | nm i => exact h.elim
  | ow d =>
    obtain ⟨a, e, h0, n, o⟩ := h
    refine ⟨a, e, b a h0, n, o, fun i q => ?_⟩
    obtain ⟨_, d', o'⟩ := s.held q
    exact o'.ne h0
theorem NewR.same {Q : VK} {v : V} {d : D} (h : NewR K F H (.fz d) Q) (s : Same F H) (r : Rp K F v d) : Q v H := h F H v (Grow.refl s) r
theorem NewR.lst {Q : VK} {ds : List D} {vs : List V} {p : Addr} (h : NewR K F H (.ow (.list ds)) Q) (s : Same F H) (r : RpA K F vs ds) (n : H p = none) : Q (.ref p) (upd H p (.lst vs)) := by
  have fn : F p = none := s.free n
  exact h F _ _ ⟨Same.refl _, s.trans (same_upd n), same_upd n, fun _ _ e => e⟩ ⟨p, rfl, n, fn, vs, upd_same, r⟩
theorem NewR.tup {Q : VK} {ds : List D} {vs : List V} {p : Addr} {ob : Obj} (h : NewR K F H (.fz (.tuple ds)) Q) (s : Same F H) (r : RpA K F vs ds) (n : H p = none) (hd : ob.dict = none) : Q (.ref p) (upd H p (.frz ob (.tup vs))) := by
  have fn : F p = none := s.free n
  refine h (upd F p (.frz ob (.tup vs))) _ _ ⟨same_upd fn, fun b o e => ?_, same_upd n, fun b e q => ?_⟩ (.tup (.inl ⟨ob, upd_same, hd⟩) (r.mono (same_upd fn)))
  · by_cases hb : b = p
    · subst hb; rw [upd_same] at e ⊢; exact e
    · rw [upd_ne hb] at e ⊢; exact s b o e
  · have hb : b ≠ p := fun z => e (z ▸ n)
    rw [upd_ne hb]; exact q
theorem NewR.dct {Q : VK} {ds : List (D × D)} {vs : List (Key × V)} {p : Addr} (h : NewR K F H (.ow (.dict ds)) Q) (s : Same F H) (r : RpK K F vs ds) (n : H p = none) : Q (.ref p) (upd H p (.dK vs)) := by
  have fn : F p = none := s.free n
  exact h F _ _ ⟨Same.refl _, s.trans (same_upd n), same_upd n, fun _ _ e => e⟩ ⟨p, rfl, n, fn, .inl ⟨vs, upd_same, r⟩⟩
theorem NewR.tdct {Q : VK} {es : List D} {xs : List (NK × Addr × V)} {p : Addr} (h : NewR K F H (.ow (.dict (tagT (xs.map (·.1)) es))) Q) (s : Same F H) (r1 : RpA K F (xs.map fun x => V.ref x.2.1) (xs.map fun x => kN x.1)) (r2 : RpA K F (xs.map fun x => x.2.2) es) (n : H p = none) : Q (.ref p) (upd H p (dX K.w p xs)) := by
  have fn : F p = none := s.free n
  exact h F _ _ ⟨Same.refl _, s.trans (same_upd n), same_upd n, fun _ _ e => e⟩ ⟨p, rfl, n, fn, .inr ⟨xs, es, upd_same, r1, r2, rfl⟩⟩
/-! ### views -/
theorem Vw.list {v : V} {ds : List D} (s : Same F H) (h : Vw K F H v (.list ds)) : ∃ a vs, v = .ref a ∧ Rd H a (.lst vs) ∧ RpA K F vs ds := by
  rcases h with h | ⟨a, rfl, vs, e, r⟩
  · cases h with
    | lst h r => exact ⟨_, _, rfl, rd_mono s h, r⟩
  · exact ⟨a, vs, rfl, .inl e, r⟩
theorem Vw.rp {v : V} {d : D} (h : Vw K F H v d) (n : ∀ ds, d ≠ .list ds) (m : ∀ ds, d ≠ .dict ds) : Rp K F v d := by
  rcases h with h | ⟨a, rfl, o⟩
  · exact h
  · cases d with
    | list ds => exact absurd rfl (n ds)
    | dict ds => exact absurd rfl (m ds)
    | _ => exact o.elim
theorem Vw.tupleD {v : V} {ds : List D} (s : Same F H) (h : Vw K F H v (.tuple ds)) : ∃ a vs, v = .ref a ∧ TupD K H a vs ∧ RpA K F vs ds := by
  have h1 := h.rp (by intro _ z; cases z) (by intro _ z; cases z)
  cases h1 with
  | tup h2 r => exact ⟨_, _, rfl, tupD_mono s h2, r⟩
theorem Vw.tuple {v : V} {ds : List D} (s : Same F H) (h : Vw K F H v (.tuple ds)) : ∃ a vs, v = .ref a ∧ SqT K H a vs ∧ RpA K F vs ds := by
  obtain ⟨a, vs, e, h2, r⟩ := h.tupleD s
  exact ⟨a, vs, e, h2.sq, r⟩
theorem Vw.int {v : V} {i : Int} (h : Vw K F H v (.int i)) : v = .int i := by
  have h := h.rp (by intro _ z; cases z) (by intro _ z; cases z)
  cases h; rfl
theorem Vw.str {v : V} {i : Str} (h : Vw K F H v (.str i)) : v = .str i := by
  have h := h.rp (by intro _ z; cases z) (by intro _ z; cases z)
  cases h; rfl
theorem Vw.bool {v : V} {i : Bool} (h : Vw K F H v (.bool i)) : v = .bl i := by
  have h := h.rp (by intro _ z; cases z) (by intro _ z; cases z)
  cases h; rfl
theorem Vw.none {v : V} (h : Vw K F H v .none) : v = .non := by
  have h := h.rp (by intro _ z; cases z) (by intro _ z; cases z)
  cases h; rfl
theorem Vw.dict {v : V} {ds : List (D × D)} (s : Same F H) (h : Vw K F H v (.dict ds)) (hk : isK ds = true) : ∃ a kvs, v = .ref a ∧ Rd H a (.dK kvs) ∧ RpK K F kvs ds := by
  rcases h with h | ⟨a, rfl, ⟨vs, e, r⟩ | ⟨xs, es, _, _, _, e⟩⟩
  · generalize hd : PyData.dict ds = d at h
    cases h with
    | dct h r => cases hd; exact ⟨_, _, rfl, rd_mono s h, r⟩
    | tdct => cases hd; cases hk
    | _ => cases hd
  · exact ⟨a, vs, rfl, .inl e, r⟩
  · subst e; cases hk
theorem Ob.asK {a : Addr} {ds : List (D × D)} (h : Ob K F H a (.dict ds)) (hk : isK ds = true) : ∃ kvs, H a = Option.some (HO.dK kvs) ∧ RpK K F kvs ds := by
  rcases h with h | ⟨xs, es, _, _, _, e⟩
  · exact h
  · subst e; cases hk
/-- a dict with tuple keys is read -/
theorem Vw.tdict {v : V} {ds : List (D × D)} (s : Same F H) (h : Vw K F H v (.dict ds)) (hk : isK ds = false) : ∃ a xs es, v = .ref a ∧ Rd H a (dX K.w a xs) ∧ RpA K F (xs.map fun x => V.ref x.2.1) (xs.map fun x => kN x.1) ∧ RpA K F (xs.map fun x => x.2.2) es ∧ ds = tagT (xs.map (·.1)) es := by
  rcases h with h | ⟨a, rfl, ⟨vs, e, r⟩ | ⟨xs, es, e1, e2, e3, e4⟩⟩
  · generalize hd : PyData.dict ds = d at h
    cases h with
    | dct h r => cases hd; rw [isK_rp r] at hk; cases hk
    | tdct h r1 r2 => cases hd; exact ⟨_, _, _, rfl, rd_mono s h, r1, r2, rfl⟩
    | _ => cases hd
  · rw [isK_rp r] at hk; cases hk
  · exact ⟨a, xs, es, rfl, .inl e1, e2, e3, e4⟩
theorem Vw.ext {v : V} {d : D} {ρ2 : List Sl} {F2 H2 : Hp} (h : Vw K F H v d) (g : Grow F H F2 H2) : Vw K F2 H2 v d := by
  rcases h with h | ⟨a, rfl, o⟩
  · exact .inl (h.mono g.fr)
  · obtain ⟨ob, eo⟩ := o.some
    exact .inr ⟨a, rfl, o.mono g.fr ((g.kp a ob eo).trans eo.symm)⟩
/-! ### names and constants -/
def dVar (i : Nat) : M Rs := fun ρ => match ρ[i]? with
  | some (.fz d) => .ok (.fz d) ρ
  | some (.ow _) => .ok (.nm i) ρ
  | some (.lk _) => .ok (.nm i) ρ
  | _ => .bad
theorem pv' {X : Cx} (i : Nat) {x : Str} {pos : Pos} (hN : X.N[i]? = some x := by rfl) (hv : Vis X.env.scope x := by first | exact Or.inl rfl | exact Or.inr (Or.inl rfl) | exact Or.inr (Or.inr rfl)) (hd : (x == ("__debug__" : Str)) = false := by decide)
    (hcd : (x == ("__classdict__" : Str)) = false := by decide) : PE X (.Name x pos) (tSem X.kw (dVar i)) := by
  refine peWeak (pe_var hN hv hd hcd) fun σ H Q h => ?_
  obtain ⟨F, ρ, r, ρ', s, e, k⟩ := h
  unfold dVar at e
  cases q : ρ[i]? with
  | none => rw [q] at e; cases e
  | some sl =>
    rw [q] at e
    have z := s.sl i sl q
    cases sl with
    | em => cases e
    | fz d => cases e; obtain ⟨v, e1, e2⟩ := z; exact ⟨v, e1, k F H v (Ext.refl s) e2⟩
    | ow d => cases e; obtain ⟨a, e1, e2, e3⟩ := z; exact ⟨_, e1, k F H _ (Ext.refl s) e1⟩
    | lk d => cases e; obtain ⟨a, e1, e2, e3⟩ := z; exact ⟨_, e1, k F H _ (Ext.refl s) e1⟩
def dC (d : D) : M Rs := pr (.fz d)
theorem sem_C {d : D} {v : V} (h : ∀ K F, Rp K F v d) : ∀ σ H Q, tSem K (dC d) σ H Q → tC v σ H Q := fun σ H Q ⟨F, ρ, r, ρ', s, e, k⟩ => by
  cases e; exact k F H v (Ext.refl s) (h K F)
section
variable {X : Cx}
theorem ci {i : Int} {j : Nat} {pos : Pos} : PE X (.Constant (.int i) j pos) (tSem X.kw (dC (.int i))) := peWeak pe_int (sem_C fun _ _ => .int i)
theorem cb {b : Bool} {j : Nat} {pos : Pos} : PE X (.Constant (.bool b) j pos) (tSem X.kw (dC (.bool b))) := peWeak pe_bl (sem_C fun _ _ => .bl b)
theorem cn {j : Nat} {pos : Pos} : PE X (.Constant .none j pos) (tSem X.kw (dC .none)) := peWeak pe_non (sem_C fun _ _ => .non)
theorem cs {x : Str} {j : Nat} {pos : Pos} : PE X (.Constant (.str x) j pos) (tSem X.kw (dC (.str x))) := peWeak pe_str (sem_C fun _ _ => .str x)
/-- a constant of the module -/
theorem cg {x : Str} {d : D} {v : V} {u : Value} {pos : Pos} (hg : Gl X x) (hm : X.mg x = some u) (r : RelV v u) (hr : ∀ K F, Rp K F v d) (hd : (x == ("__debug__" : Str)) = false := by decide) : PE X (.Name x pos) (tSem X.kw (dC d)) := peWeak (pe_glob hg hm r hd) (sem_C hr)
end
/-! ### two places -/
abbrev G2 := D → D → Option Rs
def Op2 (K : KW) (r : R2) (g : G2) : Prop := ∀ F H x y dx dy res Q, Same F H → Vw K F H x dx → Vw K F H y dy → g dx dy = some res → NewR K F H res Q → r x y H Q
def dOp2 (g : G2) (fa fb : M Rs) : M Rs := bd fa fun ra => bd fb fun rb => bd (look ra) fun da => bd (look rb) fun db => opt (g da db)
theorem sem_op2 {r : R2} {g : G2} {fa fb : M Rs} (h : Op2 K r g) : ∀ σ H Q, tSem K (dOp2 g fa fb) σ H Q → tOp r (tSem K fa) (tSem K fb) σ H Q := fun σ H Q ⟨F, ρ, res, ρ', s, e, k⟩ => by
  obtain ⟨ra, ρ1, e1, e⟩ := bd_ok e
  obtain ⟨rb, ρ2, e2, e⟩ := bd_ok e
  obtain ⟨da, ρ3, e3, e⟩ := bd_ok e
  obtain ⟨db, ρ4, e4, e⟩ := bd_ok e
  obtain ⟨eg, e5⟩ := opt_ok e
  refine ⟨F, ρ, ra, ρ1, s, e1, fun F1 H1 x x1 r1 => ⟨F1, ρ1, rb, ρ2, x1.st, e2, fun F2 H2 y x2 r2 => ?_⟩⟩
  have r1' := r1.ext x2
  obtain ⟨e3', w1⟩ := look_ok x2.st r1' e3
  subst e3'
  obtain ⟨e4', w2⟩ := look_ok x2.st r2 e4
  subst e4'
  subst e5
  refine h F2 H2 x y da db res Q x2.st.le w1 w2 eg fun F3 H3 v g hr => ?_
  have x3 := x2.st.grow g
  exact k F3 H3 v ((x1.trans x2).trans x3) (x2.st.res g hr fun a z => (x1.trans x2).back z)
theorem sem_op2T {r : R2} {g : D → D → Option Bool} {fa fb : M Rs} (h : Op2 K r (fun a b => (g a b).map fun k => .fz (.bool k))) :
    ∀ σ H Q, tSemT K (bd fa fun ra => bd fb fun rb => bd (look ra) fun da => bd (look rb) fun db => opt (g da db)) σ H Q → tTest (tOp r (tSem K fa) (tSem K fb)) σ H Q := fun σ H Q ⟨F, ρ, res, ρ', s, e, k⟩ => by
  refine sem_op2 h σ H _ ⟨F, ρ, .fz (.bool res), ρ', s, ?_, fun F' H' v x r => ?_⟩
  · obtain ⟨ra, ρ1, e1, e⟩ := bd_ok e
    obtain ⟨rb, ρ2, e2, e⟩ := bd_ok e
    obtain ⟨da, ρ3, e3, e⟩ := bd_ok e
    obtain ⟨db, ρ4, e4, e⟩ := bd_ok e
    obtain ⟨eg, e5⟩ := opt_ok e
    unfold dOp2 bd
    simp only [e1, e2, e3, e4, eg, e5, opt, Option.map]
  · have r : Rp K F' v (.bool res) := r
    cases r
    exact ⟨res, rfl, k F' H' x⟩
def dOp2T (g : D → D → Option Bool) (fa fb : M Rs) : M Bool := bd fa fun ra => bd fb fun rb => bd (look ra) fun da => bd (look rb) fun db => opt (g da db)
/-! ### one place -/
def Op1 (K : KW) (r : V → Hp → VK → Prop) (g : D → Option Rs) : Prop := ∀ F H x dx res Q, Same F H → Vw K F H x dx → g dx = some res → NewR K F H res Q → r x H Q
def dOp1 (g : D → Option Rs) (fa : M Rs) : M Rs := bd fa fun ra => bd (look ra) fun da => opt (g da)
theorem sem_op1 {r : V → Hp → VK → Prop} {g : D → Option Rs} {fa : M Rs} (h : Op1 K r g) : ∀ σ H Q, tSem K (dOp1 g fa) σ H Q → tUn r (tSem K fa) σ H Q := fun σ H Q ⟨F, ρ, res, ρ', s, e, k⟩ => by
  obtain ⟨ra, ρ1, e1, e⟩ := bd_ok e
  obtain ⟨da, ρ3, e3, e⟩ := bd_ok e
  obtain ⟨eg, e5⟩ := opt_ok e
  refine ⟨F, ρ, ra, ρ1, s, e1, fun F1 H1 x x1 r1 => ?_⟩
  obtain ⟨e3', w1⟩ := look_ok x1.st r1 e3
  subst e3'
  subst e5
  refine h F1 H1 x da res Q x1.st.le w1 eg fun F3 H3 v g hr => ?_
  exact k F3 H3 v (x1.trans (x1.st.grow g)) (x1.st.res g hr fun a z => x1.back z)
/-! ### arguments -/
def dNil : M (List Rs) := pr []
def dCons (f : M Rs) (g : M (List Rs)) : M (List Rs) := bd f fun r => bd g fun rs => pr (r :: rs)
theorem sem_nil : ∀ σ H Q, tSemA K dNil σ H Q → tNil σ H Q := fun σ H Q ⟨F, ρ, r, ρ', s, e, k⟩ => by
  cases e
  exact k F H [] (Ext.refl s) ⟨rfl, fun i v r h => by simp at h, fun i j a d e h => by simp at h⟩
theorem sem_cons {f : M Rs} {g : M (List Rs)} : ∀ σ H Q, tSemA K (dCons f g) σ H Q → tCons (tSem K f) (tSemA K g) σ H Q := fun σ H Q ⟨F, ρ, r, ρ', s, e, k⟩ => by
  obtain ⟨r1, ρ1, e1, e⟩ := bd_ok e
  obtain ⟨rs, ρ2, e2, e⟩ := bd_ok e
  obtain ⟨e3, e4⟩ := pr_ok e
  subst e3; subst e4
  refine ⟨F, ρ, r1, ρ1, s, e1, fun F1 H1 v x1 q1 => ⟨F1, ρ1, rs, ρ', x1.st, e2, fun F2 H2 vs x2 q2 => ?_⟩⟩
  refine k F2 H2 (v :: vs) (x1.trans x2) ⟨by rw [List.length_cons, List.length_cons, q2.len], fun i w r h1 h2 => ?_, fun i j a d e h1 h2 h3 h4 => ?_⟩
  · cases i with
    | zero =>
      simp at h1 h2
      subst h1; subst h2
      exact q1.ext x2
    | succ i => exact (q2.at_ i w r (by simpa using h1) (by simpa using h2)).base fun a z => x1.back z
  · have cross : ∀ (j : Nat) (a : Addr) (d e : D), v = .ref a → r1 = .ow d → vs[j]? = some (.ref a) → rs[j]? = some (.ow e) → False := fun j' a' d' e' g1 g2 g3 g4 => by
      rw [g2] at q1
      obtain ⟨b, eb, _, _, ob, _⟩ := q1
      obtain ⟨c, ec, hc, _⟩ := q2.at_ j' _ _ g3 g4
      rw [g1] at eb
      cases eb
      cases ec
      exact ob.ne hc
    cases i with
    | zero =>
      cases j with
      | zero => rfl
      | succ j =>
        simp at h1 h2
        exact (cross j a d e h1 h2 (by simpa using h3) (by simpa using h4)).elim
    | succ i =>
      cases j with
      | zero =>
        simp at h3 h4
        exact (cross i a e d h3 h4 (by simpa using h1) (by simpa using h2)).elim
      | succ j => rw [q2.dj i j a d e (by simpa using h1) (by simpa using h2) (by simpa using h3) (by simpa using h4)]
section
variable {X : Cx} {e : Expr} {es : List Expr} {f : M Rs} {g : M (List Rs)}
theorem an : PA X [] (tSemA X.kw dNil) := paWeak pa_nil sem_nil
theorem ac (ha : PE X e (tSem X.kw f)) (hr : PA X es (tSemA X.kw g)) (hs : starEach (e :: es) X.env = (false, eval e X.env) :: starEach es X.env := by rfl) : PA X (e :: es) (tSemA X.kw (dCons f g)) := paWeak (pa_cons ha hr hs) sem_cons
end
def lookA : List Rs → M (List D)
  | [] => pr []
  | r :: rs => bd (look r) fun d => bd (lookA rs) fun ds => pr (d :: ds)
def frzA : List Rs → M (List D)
  | [] => pr []
  | r :: rs => bd (frz r) fun d => bd (frzA rs) fun ds => pr (d :: ds)
/-- values that read as data now -/
def VwA (K : KW) (F H : Hp) : List V → List D → Prop
  | [], [] => True
  | v :: vs, d :: ds => Vw K F H v d ∧ VwA K F H vs ds
  | _, _ => False
theorem RsA.tail {H₀ : Hp} {v : V} {r : Rs} {vs : List V} {rs : List Rs} (h : RsA K H₀ F H σ ρ (v :: vs) (r :: rs)) : RsR K H₀ F H σ ρ v r ∧ RsA K H₀ F H σ ρ vs rs :=
  ⟨h.at_ 0 v r rfl rfl, ⟨by have := h.len; simpa using this, fun i w s h1 h2 => h.at_ (i + 1) w s (by simpa using h1) (by simpa using h2),
    fun i j a d e h1 h2 h3 h4 => by have := h.dj (i + 1) (j + 1) a d e (by simpa using h1) (by simpa using h2) (by simpa using h3) (by simpa using h4); omega⟩⟩
theorem lookA_ok {H₀ : Hp} (s : Sta K F H σ ρ) : ∀ {vs : List V} {rs : List Rs} {ds : List D} {ρ' : List Sl}, RsA K H₀ F H σ ρ vs rs → lookA rs ρ = .ok ds ρ' → ρ' = ρ ∧ VwA K F H vs ds
  | [], [], ds, ρ', h, e => by cases e; exact ⟨rfl, trivial⟩
  | [], _ :: _, ds, ρ', h, e => by have := h.len; simp at this
  | _ :: _, [], ds, ρ', h, e => by have := h.len; simp at this
  | v :: vs, r :: rs, ds, ρ', h, e => by
    obtain ⟨d, ρ1, e1, e⟩ := bd_ok e
    obtain ⟨ds', ρ2, e2, e⟩ := bd_ok e
    obtain ⟨e3, e4⟩ := pr_ok e
    subst e3; subst e4
    obtain ⟨h1, h2⟩ := h.tail
    obtain ⟨z, w⟩ := look_ok s h1 e1
    rw [z] at e2
    obtain ⟨z', w'⟩ := lookA_ok s h2 e2
    exact ⟨z', w, w'⟩
theorem RsA.ext {H₀ : Hp} {vs : List V} {rs : List Rs} (h : RsA K H₀ F H σ ρ vs rs) (x : Ext K F H σ ρ F' H' σ ρ') : RsA K H₀ F' H' σ ρ' vs rs := ⟨h.len, fun i v r h1 h2 => (h.at_ i v r h1 h2).ext x, h.dj⟩
end
end DL
namespace DL
open PySem PySem.Spec PyProof.Rows L2
section
variable {K : KW} {F H F' H' : Hp} {σ σ' : SS} {ρ ρ' : List Sl}
/-! ### freezing several -/
theorem hd_set_fz {i j : Nat} {b : Addr} {d : D} (h : HdAt σ (ρ.set i (.fz d)) j b) : HdAt σ ρ j b := by
  by_cases hj : i = j
  · subst hj
    rcases h with ⟨e, d', q⟩ | ⟨e, d', q⟩ <;>
    · by_cases hi : i < ρ.length
      · rw [List.getElem?_set_self hi] at q; cases q
      · rw [List.getElem?_eq_none (by simpa using hi)] at q; cases q
  · rcases h with ⟨e, d', q⟩ | ⟨e, d', q⟩
    · rw [List.getElem?_set_ne hj] at q; exact .inl ⟨e, d', q⟩
    · rw [List.getElem?_set_ne hj] at q; exact .inr ⟨e, d', q⟩
theorem Ext.freeze' {F₀ H₀ : Hp} {σ₀ : SS} {ρ₀ : List Sl} {i : Nat} {a : Addr} {d : D} {s : Sl} (x : Ext K F₀ H₀ σ₀ ρ₀ F H σ ρ) (hσ : σ[i]? = some (some (.ref a))) (hρ : ρ[i]? = some s) (hs : s = .ow d ∨ s = .lk d) :
    ∃ F', Ext K F₀ H₀ σ₀ ρ₀ F' H σ (ρ.set i (.fz d)) ∧ Rp K F' (.ref a) d ∧ Same F F' ∧ (∀ b, (∀ i, ¬ HdAt σ ρ i b) → F b = none → F' b = none) := by
  have hd : HdAt σ ρ i a := by
    rcases hs with e | e
    · exact .inl ⟨hσ, d, by rw [hρ, e]⟩
    · exact .inr ⟨hσ, d, by rw [hρ, e]⟩
  obtain ⟨F', x', rp⟩ := (Ext.refl x.st).freeze hσ hρ hs
  refine ⟨F', x.trans x', rp, x'.fr, fun b n q => ?_⟩
  cases e : H b with
  | some o => exact x'.nf b (by rw [e]; exact fun z => nomatch z) n q
  | none =>
    cases r : F' b with
    | none => rfl
    | some o =>
      have := x'.st.le b o r
      rw [e] at this; cases this
theorem frz_ok' {F₀ H₀ : Hp} {σ₀ : SS} {ρ₀ : List Sl} {v : V} {r : Rs} {d : D} (x : Ext K F₀ H₀ σ₀ ρ₀ F H σ ρ) (h : RsR K H₀ F H σ ρ v r) (e : frz r ρ = .ok d ρ') :
    ∃ F', Ext K F₀ H₀ σ₀ ρ₀ F' H σ ρ' ∧ Rp K F' v d ∧ Same F F' ∧ (∀ b, (∀ i, ¬ HdAt σ ρ i b) → (∀ d', r = .ow d' → v ≠ .ref b) → F b = none → F' b = none) ∧ ∀ i b, HdAt σ ρ' i b → HdAt σ ρ i b := by
  cases r with
  | fz d' => cases e; exact ⟨F, x, h, Same.refl _, fun _ _ _ e => e, fun _ _ e => e⟩
  | ow d' =>
    obtain ⟨a, e1, h0, hf, ho, hn⟩ := h
    cases e
    subst e1
    obtain ⟨F', x', rp, sm, nb⟩ := x.freezeNew h0 hf ho hn
    refine ⟨F', x', rp, sm, fun b _ q z => ?_, fun _ _ e => e⟩
    rw [nb b fun z => q _ rfl (by rw [z])]; exact z
  | nm i =>
    have h : σ[i]? = some (some v) := h
    unfold frz at e
    simp only at e
    cases q : ρ[i]? with
    | none => rw [q] at e; cases e
    | some sl =>
      rw [q] at e
      have z := x.st.sl i sl q
      cases sl with
      | em => cases e
      | fz d' =>
        cases e
        obtain ⟨w, e1, e2⟩ := z
        rw [h] at e1; cases e1
        exact ⟨F, x, e2, Same.refl _, fun _ _ _ e => e, fun _ _ e => e⟩
      | ow d' =>
        cases e
        obtain ⟨a, e1, e2, e3⟩ := z
        rw [h] at e1; cases e1
        obtain ⟨F', x', rp, sm, nb⟩ := x.freeze' h q (.inl rfl)
        exact ⟨F', x', rp, sm, fun b n _ z => nb b n z, fun _ _ => hd_set_fz⟩
      | lk d' =>
        cases e
        obtain ⟨a, e1, e2, e3⟩ := z
        rw [h] at e1; cases e1
        obtain ⟨F', x', rp, sm, nb⟩ := x.freeze' h q (.inr rfl)
        exact ⟨F', x', rp, sm, fun b n _ z => nb b n z, fun _ _ => hd_set_fz⟩
/-- the others stay what they were when one is frozen -/
theorem RsA.frozen {H₀ : Hp} {v : V} {r : Rs} {vs : List V} {rs : List Rs} (h : RsA K H₀ F H σ ρ (v :: vs) (r :: rs)) (sm : Same F F')
    (nb : ∀ b, (∀ i, ¬ HdAt σ ρ i b) → (∀ d', r = .ow d' → v ≠ .ref b) → F b = none → F' b = none) (hb : ∀ i b, HdAt σ ρ' i b → HdAt σ ρ i b) : RsA K H₀ F' H σ ρ' vs rs := by
  refine ⟨h.tail.2.len, fun i w s h1 h2 => ?_, h.tail.2.dj⟩
  have q := h.tail.2.at_ i w s h1 h2
  cases s with
  | fz d => exact q.mono sm
  | nm i => exact q
  | ow d =>
    obtain ⟨a, e, h0, hf, ho, hn⟩ := q
    refine ⟨a, e, h0, nb a hn (fun d' e1 e2 => ?_) hf, ho.mono sm rfl, fun i z => hn i (hb i a z)⟩
    have := h.dj 0 (i + 1) a d' d (by rw [e2]; rfl) (by rw [e1]; rfl) (by rw [← e]; simpa using h1) (by simpa using h2)
    omega
theorem frzA_ok {F₀ H₀ : Hp} {σ₀ : SS} {ρ₀ : List Sl} : ∀ {rs : List Rs} {vs : List V} {ds : List D} {F : Hp} {ρ ρ' : List Sl}, Ext K F₀ H₀ σ₀ ρ₀ F H σ ρ → RsA K H₀ F H σ ρ vs rs → frzA rs ρ = .ok ds ρ' →
    ∃ F', Ext K F₀ H₀ σ₀ ρ₀ F' H σ ρ' ∧ RpA K F' vs ds ∧ Same F F'
  | [], [], ds, F, ρ, ρ', x, h, e => by cases e; exact ⟨F, x, .nil, Same.refl _⟩
  | [], _ :: _, _, _, _, _, _, h, _ => by have := h.len; simp at this
  | _ :: _, [], _, _, _, _, _, h, _ => by have := h.len; simp at this
  | r :: rs, v :: vs, ds, F, ρ, ρ', x, h, e => by
    obtain ⟨d, ρ1, e1, e⟩ := bd_ok e
    obtain ⟨ds', ρ2, e2, e⟩ := bd_ok e
    obtain ⟨e3, e4⟩ := pr_ok e
    subst e3; subst e4
    obtain ⟨F1, x1, rp, sm, nb, hb⟩ := frz_ok' x h.tail.1 e1
    obtain ⟨F2, x2, rpa, sm2⟩ := frzA_ok x1 (h.frozen sm nb hb) e2
    exact ⟨F2, x2, .cons (rp.mono sm2) rpa, sm.trans sm2⟩
/-! ### displays of tuples and lists -/
def dTup (f : M (List Rs)) : M Rs := bd f fun rs => bd (frzA rs) fun ds => if ds.length ≤ 1000 then pr (.fz (.tuple ds)) else fun _ => .bad
def dLst (f : M (List Rs)) : M Rs := bd f fun rs => bd (frzA rs) fun ds => if ds.length ≤ 1000 then pr (.ow (.list ds)) else fun _ => .bad
theorem small_le {n : Nat} (h : n ≤ 1000) : n ≤ sizeLine := Nat.le_trans h (by decide)
/-- a new tuple, told to have no dict of its own -/
def tTupD (t : TA) : TE := fun σ H Q => t σ H fun xs H1 => xs.length ≤ sizeLine ∧ ∀ p ob, H1 p = none → ob.dict = none → Q (.ref p) (upd H1 p (.frz ob (.tup xs)))
theorem pe_tupD {X : Cx} {es : List Expr} {t : TA} {pos : Pos} {x1} (h : PA X es t) : PE X (.Tuple es x1 pos) (tTupD t) := by
  refine ⟨fun pins s σ H Q I hq => ?_⟩
  refine wpAny_Tuple_spliced (thn (h.run pos pins s σ H _ I hq) fun us s1 ⟨xs, H1, I1, r, z, q⟩ => ⟨by rw [← r.length]; exact z, ?_⟩)
  have hf : H1 s1.heap.objs.size = none := I1.hok.fresh (Nat.le_refl _)
  refine ⟨.ref s1.heap.objs.size, upd H1 s1.heap.objs.size (.frz { cls := .type "tuple", data := .seq us.toArray } (.tup xs)), I1.laid (t' := s1.toks) (fun b u e => Heap.get?_push_of_some _ e) (Nat.le_refl _) ?_, rfl, q _ _ hf rfl⟩
  exact ⟨Heap.get?_push_size _ rfl, z, us, r, ⟨_, Heap.get?_push_size _ rfl, rfl, _, rfl⟩⟩
theorem sem_tup {f : M (List Rs)} : ∀ σ H Q, tSem K (dTup f) σ H Q → tTupD (tSemA K f) σ H Q := fun σ H Q ⟨F, ρ, r, ρ', s, e, k⟩ => by
  obtain ⟨rs, ρ1, e1, e⟩ := bd_ok e
  obtain ⟨ds, ρ2, e2, e⟩ := bd_ok e
  split at e
  case isFalse => cases e
  case isTrue hl =>
    obtain ⟨e3, e4⟩ := pr_ok e
    subst e3; subst e4
    refine ⟨F, ρ, rs, ρ1, s, e1, fun F1 H1 vs x1 q1 => ?_⟩
    obtain ⟨F2, x2, rpa, _⟩ := frzA_ok x1 q1 e2
    refine ⟨by rw [rpa.length]; exact small_le hl, fun p ob hp hd => NewR.tup (F := F2) (K := K) (fun F3 H3 v g hr => k F3 H3 v (x2.trans (x2.st.grow g)) (x2.st.res g hr fun a z => x2.back z)) x2.st.le rpa hp hd⟩
theorem sem_lst {f : M (List Rs)} : ∀ σ H Q, tSem K (dLst f) σ H Q → tLst (tSemA K f) σ H Q := fun σ H Q ⟨F, ρ, r, ρ', s, e, k⟩ => by
  obtain ⟨rs, ρ1, e1, e⟩ := bd_ok e
  obtain ⟨ds, ρ2, e2, e⟩ := bd_ok e
  split at e
  case isFalse => cases e
  case isTrue hl =>
    obtain ⟨e3, e4⟩ := pr_ok e
    subst e3; subst e4
    refine ⟨F, ρ, rs, ρ1, s, e1, fun F1 H1 vs x1 q1 => ?_⟩
    obtain ⟨F2, x2, rpa, _⟩ := frzA_ok x1 q1 e2
    refine ⟨by rw [rpa.length]; exact small_le hl, fun p hp => NewR.lst (F := F2) (K := K) (fun F3 H3 v g hr => k F3 H3 v (x2.trans (x2.st.grow g)) (x2.st.res g hr fun a z => x2.back z)) x2.st.le rpa hp⟩
section
variable {X : Cx} {es : List Expr} {f : M (List Rs)} {pos : Pos} {x1 : Nat}
theorem et (h : PA X es (tSemA X.kw f)) : PE X (.Tuple es x1 pos) (tSem X.kw (dTup f)) := peWeak (pe_tupD h) sem_tup
theorem el (h : PA X es (tSemA X.kw f)) : PE X (.List es pos) (tSem X.kw (dLst f)) := peWeak (pe_lst h) sem_lst
end
/-! ### built-ins of several values -/
def OpN (K : KW) (r : List V → Hp → VK → Prop) (g : List D → Option Rs) : Prop := ∀ F H xs ds res Q, Same F H → VwA K F H xs ds → g ds = some res → NewR K F H res Q → r xs H Q
def dB (g : List D → Option Rs) (f : M (List Rs)) : M Rs := bd f fun rs => bd (lookA rs) fun ds => opt (g ds)
theorem sem_B {r : List V → Hp → VK → Prop} {g : List D → Option Rs} {f : M (List Rs)} (h : OpN K r g) : ∀ σ H Q, tSem K (dB g f) σ H Q → tCB r (tSemA K f) σ H Q := fun σ H Q ⟨F, ρ, res, ρ', s, e, k⟩ => by
  obtain ⟨rs, ρ1, e1, e⟩ := bd_ok e
  obtain ⟨ds, ρ3, e3, e⟩ := bd_ok e
  obtain ⟨eg, e5⟩ := opt_ok e
  refine ⟨F, ρ, rs, ρ1, s, e1, fun F1 H1 vs x1 q1 => ?_⟩
  obtain ⟨e3', w⟩ := lookA_ok x1.st q1 e3
  subst e3'; subst e5
  refine h F1 H1 vs ds res Q x1.st.le w eg fun F3 H3 v g hr => ?_
  exact k F3 H3 v (x1.trans (x1.st.grow g)) (x1.st.res g hr fun a z => x1.back z)
/-! ### calls of defs -/
def argS (l : Bool) (r : Rs) : M Rs := fun ρ => match r with
  | .fz d => .ok (.fz d) ρ
  | .ow d => .ok (.ow d) ρ
  | .nm i => match ρ[i]? with
    | some (.fz d) => .ok (.fz d) ρ
    | some (.ow d) => if l then .ok (.nm i) ρ else .ok (.fz d) (ρ.set i (.fz d))
    | some (.lk d) => if l then .ok (.nm i) ρ else .ok (.fz d) (ρ.set i (.fz d))
    | _ => .bad
def argSA : List Bool → List Rs → M (List Rs)
  | l :: ls, r :: rs => bd (argS l r) fun r' => bd (argSA ls rs) fun rs' => pr (r' :: rs')
  | [], [] => pr []
  | _, _ => fun _ => .bad
def slotOf (ρ : List Sl) : Rs → Sl
  | .fz d => .fz d
  | .ow d => .ow d
  | .nm i => (ρ[i]?).getD .em
def isNm (i : Nat) : Rs → Bool
  | .nm j => i == j
  | _ => false
def nmOk : List Rs → Bool
  | .nm i :: rs => !(rs.any (isNm i)) && nmOk rs
  | _ :: rs => nmOk rs
  | [] => true
/-- the slots of what was lent, as the callee left them -/
def wb : List Rs → List Sl → List Sl → List Sl
  | .nm i :: rs, s :: ss, ρ => wb rs ss (ρ.set i s)
  | _ :: rs, _ :: ss, ρ => wb rs ss ρ
  | _, _, ρ => ρ
def heldR (ρ : List Sl) : Rs → Bool
  | .nm i => match ρ[i]? with
    | some (.ow _) => true
    | some (.lk _) => true
    | _ => false
  | _ => true
def dCall (ls : List Bool) (sem : M Rs) (f : M (List Rs)) : M Rs := bd f fun rs => bd (argSA ls rs) fun rs' => fun ρ =>
  if (nmOk rs' && rs'.all (heldR ρ)) = true then match sem (rs'.map (slotOf ρ)) with
    | .ok (.fz d) ρp => .ok (.fz d) (wb rs' ρp ρ)
    | .ok (.ow d) ρp => .ok (.ow d) (wb rs' ρp ρ)
    | _ => .bad
  else .bad
theorem argS_ok {F₀ H₀ : Hp} {σ₀ : SS} {ρ₀ : List Sl} {l : Bool} {v : V} {r r' : Rs} (x : Ext K F₀ H₀ σ₀ ρ₀ F H σ ρ) (h : RsR K H₀ F H σ ρ v r) (e : argS l r ρ = .ok r' ρ') :
    ∃ F', Ext K F₀ H₀ σ₀ ρ₀ F' H σ ρ' ∧ RsR K H₀ F' H σ ρ' v r' ∧ (∀ d, r' = .ow d → r = .ow d) ∧ Same F F' ∧ (∀ b, (∀ i, ¬ HdAt σ ρ i b) → F b = none → F' b = none) ∧ ∀ i b, HdAt σ ρ' i b → HdAt σ ρ i b := by
  cases r with
  | fz d => cases e; exact ⟨F, x, h, (fun _ e => nomatch e), Same.refl _, fun _ _ e => e, fun _ _ e => e⟩
  | ow d => cases e; exact ⟨F, x, h, fun _ e => e, Same.refl _, fun _ _ e => e, fun _ _ e => e⟩
  | nm i =>
    have h' : σ[i]? = some (some v) := h
    unfold argS at e
    simp only at e
    cases q : ρ[i]? with
    | none => rw [q] at e; cases e
    | some sl =>
      rw [q] at e
      have z := x.st.sl i sl q
      cases sl with
      | em => cases e
      | fz d' =>
        cases e
        obtain ⟨w, e1, e2⟩ := z
        rw [h'] at e1; cases e1
        exact ⟨F, x, e2, (fun _ e => nomatch e), Same.refl _, fun _ _ e => e, fun _ _ e => e⟩
      | ow d' =>
        obtain ⟨a, e1, e2, e3⟩ := z
        rw [h'] at e1; cases e1
        simp only at e
        split at e
        · cases e; exact ⟨F, x, h, (fun _ e => nomatch e), Same.refl _, fun _ _ e => e, fun _ _ e => e⟩
        · cases e
          obtain ⟨F', x', rp, sm, nb⟩ := x.freeze' h' q (.inl rfl)
          exact ⟨F', x', rp, (fun _ e => nomatch e), sm, fun b n z => nb b n z, fun _ _ => hd_set_fz⟩
      | lk d' =>
        obtain ⟨a, e1, e2, e3⟩ := z
        rw [h'] at e1; cases e1
        simp only at e
        split at e
        · cases e; exact ⟨F, x, h, (fun _ e => nomatch e), Same.refl _, fun _ _ e => e, fun _ _ e => e⟩
        · cases e
          obtain ⟨F', x', rp, sm, nb⟩ := x.freeze' h' q (.inr rfl)
          exact ⟨F', x', rp, (fun _ e => nomatch e), sm, fun b n z => nb b n z, fun _ _ => hd_set_fz⟩
theorem argSA_ok {F₀ H₀ : Hp} {σ₀ : SS} {ρ₀ : List Sl} : ∀ {ls : List Bool} {rs rs' : List Rs} {vs : List V} {F : Hp} {ρ ρ' : List Sl}, Ext K F₀ H₀ σ₀ ρ₀ F H σ ρ → RsA K H₀ F H σ ρ vs rs → argSA ls rs ρ = .ok rs' ρ' →
    ∃ F', Ext K F₀ H₀ σ₀ ρ₀ F' H σ ρ' ∧ RsA K H₀ F' H σ ρ' vs rs' ∧ (∀ (j : Nat) (d : D), rs'[j]? = some (.ow d) → rs[j]? = some (.ow d)) ∧ Same F F' ∧ (∀ b, (∀ i, ¬ HdAt σ ρ i b) → F b = none → F' b = none) ∧ ∀ i b, HdAt σ ρ' i b → HdAt σ ρ i b
  | [], [], rs', [], F, ρ, ρ', x, h, e => by cases e; exact ⟨F, x, h, fun _ _ e => e, Same.refl _, fun _ _ e => e, fun _ _ e => e⟩
  | _, [], _, _ :: _, _, _, _, _, h, _ => by have := h.len; simp at this
  | _, _ :: _, _, [], _, _, _, _, h, _ => by have := h.len; simp at this
  | [], _ :: _, _, _ :: _, _, _, _, _, h, e => by cases e
  | _ :: _, [], _, _, _, _, _, _, h, e => by cases e
  | l :: ls, r :: rs, rs', v :: vs, F, ρ, ρ', x, h, e => by
    obtain ⟨r1, ρ1, e1, e⟩ := bd_ok e
    obtain ⟨rs1, ρ2, e2, e⟩ := bd_ok e
    obtain ⟨e3, e4⟩ := pr_ok e
    subst e3; subst e4
    obtain ⟨F1, x1, q1, ow1, sm, nb, hb⟩ := argS_ok x h.tail.1 e1
    obtain ⟨F2, x2, q2, ow2, sm2, nb2, hb2⟩ := argSA_ok x1 (h.frozen sm (fun b n _ z => nb b n z) hb) e2
    refine ⟨F2, x2, ⟨by rw [List.length_cons, List.length_cons, q2.len], fun i w s h1 h2 => ?_, fun i j a d e h1 h2 h3 h4 => ?_⟩, fun j d z => ?_, sm.trans sm2, fun b n z => nb2 b (fun i y => n i (hb i b y)) (nb b n z), fun i b y => hb i b (hb2 i b y)⟩
    · cases i with
      | zero =>
        simp at h1 h2
        subst h1; subst h2
        cases r1 with
        | fz d => exact Rp.mono sm2 q1
        | nm i => exact q1
        | ow d =>
          obtain ⟨a, e, h0, hf, ho, hn⟩ := q1
          exact ⟨a, e, h0, nb2 a hn hf, ho.mono sm2 rfl, fun i z => hn i (hb2 i a z)⟩
      | succ i => exact q2.at_ i w s (by simpa using h1) (by simpa using h2)
    · have o1 : (r :: rs)[i]? = some (.ow d) := by
        cases i with
        | zero => simp at h2 ⊢; exact ow1 d h2
        | succ i => simp at h2 ⊢; exact ow2 i d h2
      have o2 : (r :: rs)[j]? = some (.ow e) := by
        cases j with
        | zero => simp at h4 ⊢; exact ow1 e h4
        | succ j => simp at h4 ⊢; exact ow2 j e h4
      exact h.dj i j a d e h1 o1 h3 o2
    · cases j with
      | zero => simp at z ⊢; exact ow1 d z
      | succ j => simp at z ⊢; exact ow2 j d z
theorem argSA_len : ∀ {ls : List Bool} {rs rs' : List Rs} {ρ ρ' : List Sl}, argSA ls rs ρ = .ok rs' ρ' → rs.length = ls.length
  | [], [], _, _, _, _ => rfl
  | [], _ :: _, _, _, _, e => by cases e
  | _ :: _, [], _, _, _, e => by cases e
  | _ :: _, _ :: _, _, _, _, e => by
    obtain ⟨r1, ρ3, _, e2⟩ := bd_ok e
    obtain ⟨rs1, ρ4, e4, _⟩ := bd_ok e2
    rw [List.length_cons, List.length_cons, argSA_len e4]
theorem nm_not {i : Nat} : ∀ {rs : List Rs} {j : Nat}, rs.any (isNm i) = false → rs[j]? = some (.nm i) → False
  | [], _, _, h => by simp at h
  | r :: rs, 0, h, e => by
    simp at e; subst e
    simp [isNm] at h
  | r :: rs, j + 1, h, e => by
    rw [List.any_cons, Bool.or_eq_false_iff] at h
    exact nm_not h.2 (j := j) (by simpa using e)
theorem nm_tail {r : Rs} {rs : List Rs} (h : nmOk (r :: rs) = true) : nmOk rs = true ∧ ∀ i, r = .nm i → rs.any (isNm i) = false := by
  cases r with
  | nm i =>
    unfold nmOk at h
    rw [Bool.and_eq_true, Bool.not_eq_true'] at h
    exact ⟨h.2, fun j e => by cases e; exact h.1⟩
  | fz d => exact ⟨h, fun _ e => nomatch e⟩
  | ow d => exact ⟨h, fun _ e => nomatch e⟩
theorem nm_inj : ∀ {rs : List Rs} {j k i : Nat}, nmOk rs = true → rs[j]? = some (.nm i) → rs[k]? = some (.nm i) → j = k
  | [], _, _, _, _, h, _ => by simp at h
  | r :: rs, 0, 0, _, _, _, _ => rfl
  | r :: rs, 0, k + 1, i, h, e1, e2 => by
    simp at e1 e2
    exact (nm_not ((nm_tail h).2 i e1) e2).elim
  | r :: rs, j + 1, 0, i, h, e1, e2 => by
    simp at e1 e2
    exact (nm_not ((nm_tail h).2 i e2) e1).elim
  | r :: rs, j + 1, k + 1, i, h, e1, e2 => by
    rw [nm_inj (nm_tail h).1 (j := j) (k := k) (i := i) (by simpa using e1) (by simpa using e2)]
theorem wb_len : ∀ (rs : List Rs) (ss ρ : List Sl), (wb rs ss ρ).length = ρ.length
  | [], _, _ => rfl
  | .nm i :: rs, s :: ss, ρ => by unfold wb; rw [wb_len, List.length_set]
  | .fz _ :: rs, s :: ss, ρ => by unfold wb; rw [wb_len]
  | .ow _ :: rs, s :: ss, ρ => by unfold wb; rw [wb_len]
  | .nm _ :: _, [], _ => rfl
  | .fz _ :: _, [], _ => rfl
  | .ow _ :: _, [], _ => rfl
theorem wb_get : ∀ {rs : List Rs} {ss ρ : List Sl} {i : Nat}, nmOk rs = true → rs.length = ss.length → i < ρ.length →
    (∃ (j : Nat) (s : Sl), rs[j]? = some (.nm i) ∧ ss[j]? = some s ∧ (wb rs ss ρ)[i]? = some s) ∨ ((∀ j : Nat, rs[j]? ≠ some (Rs.nm i)) ∧ (wb rs ss ρ)[i]? = ρ[i]?)
  | [], _, _, _, _, _, _ => .inr ⟨fun j h => by simp at h, rfl⟩
  | _ :: _, [], _, _, _, h, _ => by simp at h
  | r :: rs, s :: ss, ρ, i, h, hl, hi => by
    have hl' : rs.length = ss.length := by simpa using hl
    obtain ⟨h1, h2⟩ := nm_tail h
    have other : ∀ ρ1 : List Sl, ρ1.length = ρ.length → wb (r :: rs) (s :: ss) ρ = wb rs ss ρ1 → r ≠ .nm i → ρ1[i]? = ρ[i]? →
        (∃ (j : Nat) (s' : Sl), (r :: rs)[j]? = some (.nm i) ∧ (s :: ss)[j]? = some s' ∧ (wb (r :: rs) (s :: ss) ρ)[i]? = some s') ∨ ((∀ j : Nat, (r :: rs)[j]? ≠ some (Rs.nm i)) ∧ (wb (r :: rs) (s :: ss) ρ)[i]? = ρ[i]?) := fun ρ1 l1 w1 n1 g1 => by
      rw [w1]
      rcases wb_get (ρ := ρ1) (i := i) h1 hl' (by omega) with ⟨j, s', q1, q2, q3⟩ | ⟨q1, q2⟩
      · exact .inl ⟨j + 1, s', by simpa using q1, by simpa using q2, q3⟩
      · refine .inr ⟨fun j => ?_, q2.trans g1⟩
        cases j with
        | zero => simp; exact n1
        | succ j => simpa using q1 j
    cases r with
    | fz d => exact other ρ rfl rfl (fun z => nomatch z) rfl
    | ow d => exact other ρ rfl rfl (fun z => nomatch z) rfl
    | nm k =>
      by_cases hk : k = i
      · subst hk
        refine .inl ⟨0, s, rfl, rfl, ?_⟩
        show (wb rs ss (ρ.set k s))[k]? = some s
        rcases wb_get (ss := ss) (ρ := ρ.set k s) (i := k) h1 hl' (by simpa using hi) with ⟨j, s', q1, q2, q3⟩ | ⟨q1, q2⟩
        · exact (nm_not (h2 k rfl) q1).elim
        · rw [q2, List.getElem?_set_self hi]
      · exact other (ρ.set k s) (by simp) rfl (fun z => hk (by cases z; rfl)) (List.getElem?_set_ne hk)
theorem vs_at {vs : List V} {j : Nat} {a : V} : (vs.map some)[j]? = some (some a) ↔ vs[j]? = some a := by
  rw [List.getElem?_map]
  cases vs[j]? <;> simp
theorem slots_at {rs : List Rs} {j : Nat} {s : Sl} (h : (rs.map (slotOf ρ))[j]? = some s) : ∃ r, rs[j]? = some r ∧ slotOf ρ r = s := by
  rw [List.getElem?_map] at h
  cases e : rs[j]? with
  | none => rw [e] at h; cases h
  | some r => rw [e] at h; exact ⟨r, rfl, by simpa using h⟩
/-- what is held through an argument: a new thing, or what a slot of ours holds -/
theorem args_hd {H₀ : Hp} {vs : List V} {rs : List Rs} (h : RsA K H₀ F H σ ρ vs rs) {j : Nat} {b : Addr} (q : HdAt (vs.map some) (rs.map (slotOf ρ)) j b) :
    (∃ d, rs[j]? = some (.ow d) ∧ vs[j]? = some (.ref b)) ∨ ∃ i, rs[j]? = some (.nm i) ∧ vs[j]? = some (.ref b) ∧ HdAt σ ρ i b := by
  rcases q with ⟨e, d, q⟩ | ⟨e, d, q⟩
  · obtain ⟨r, e1, e2⟩ := slots_at q
    have ev := vs_at.mp e
    cases r with
    | fz d' => cases e2
    | ow d' => exact .inl ⟨d', e1, ev⟩
    | nm i =>
      have hi : σ[i]? = some (some (.ref b)) := h.at_ j _ _ ev e1
      refine .inr ⟨i, e1, ev, .inl ⟨hi, d, ?_⟩⟩
      have e2 : (ρ[i]?).getD .em = .ow d := e2
      cases z : ρ[i]? with
      | none => rw [z] at e2; cases e2
      | some s => rw [z] at e2; rw [show s = .ow d from e2]
  · obtain ⟨r, e1, e2⟩ := slots_at q
    have ev := vs_at.mp e
    cases r with
    | fz d' => cases e2
    | ow d' => cases e2
    | nm i =>
      have hi : σ[i]? = some (some (.ref b)) := h.at_ j _ _ ev e1
      refine .inr ⟨i, e1, ev, .inr ⟨hi, d, ?_⟩⟩
      have e2 : (ρ[i]?).getD .em = .lk d := e2
      cases z : ρ[i]? with
      | none => rw [z] at e2; cases e2
      | some s => rw [z] at e2; rw [show s = .lk d from e2]
theorem args_ow {H₀ : Hp} {vs : List V} {rs : List Rs} (h : RsA K H₀ F H σ ρ vs rs) {j : Nat} {b : Addr} (q : OwAt (vs.map some) (rs.map (slotOf ρ)) j b) :
    (∃ d, rs[j]? = some (.ow d) ∧ vs[j]? = some (.ref b)) ∨ ∃ i, rs[j]? = some (.nm i) ∧ vs[j]? = some (.ref b) ∧ OwAt σ ρ i b := by
  obtain ⟨e, d, q⟩ := q
  obtain ⟨r, e1, e2⟩ := slots_at q
  have ev := vs_at.mp e
  cases r with
  | fz d' => cases e2
  | ow d' => exact .inl ⟨d', e1, ev⟩
  | nm i =>
    have hi : σ[i]? = some (some (.ref b)) := h.at_ j _ _ ev e1
    refine .inr ⟨i, e1, ev, hi, d, ?_⟩
    have e2 : (ρ[i]?).getD .em = .ow d := e2
    cases z : ρ[i]? with
    | none => rw [z] at e2; cases e2
    | some s => rw [z] at e2; rw [show s = .ow d from e2]
theorem args_sta {H₀ : Hp} {vs : List V} {rs : List Rs} (s : Sta K F H σ ρ) (h : RsA K H₀ F H σ ρ vs rs) (n : nmOk rs = true) : Sta K F H (vs.map some) (rs.map (slotOf ρ)) := by
  refine ⟨s.le, by rw [List.length_map, List.length_map, h.len], fun j sl q => ?_, fun j k b h1 h2 => ?_⟩
  · obtain ⟨r, e1, e2⟩ := slots_at q
    have hj : j < vs.length := by
      rw [h.len]
      exact (List.getElem?_eq_some_iff.mp e1).1
    have ev : vs[j]? = some vs[j] := List.getElem?_eq_getElem hj
    have z := h.at_ j _ r ev e1
    cases r with
    | fz d => subst e2; exact ⟨_, vs_at.mpr ev, z⟩
    | ow d =>
      subst e2
      obtain ⟨a, ea, _, hf, ho, _⟩ := z
      exact ⟨a, vs_at.mpr (by rw [ev, ea]), hf, ho⟩
    | nm i =>
      have hi : σ[i]? = some (some vs[j]) := z
      have e2 : (ρ[i]?).getD .em = sl := e2
      cases y : ρ[i]? with
      | none => rw [y] at e2; subst e2; trivial
      | some s' =>
        rw [y] at e2
        have e2 : s' = sl := e2
        subst e2
        have w := s.sl i s' y
        rw [hi] at w
        rw [show (vs.map some)[j]? = some (some vs[j]) from vs_at.mpr ev]
        exact w
  · rcases args_hd h h1 with ⟨d, a1, a2⟩ | ⟨i, a1, a2, a3⟩
    · rcases args_hd h h2 with ⟨d', b1, b2⟩ | ⟨i', b1, b2, b3⟩
      · exact h.dj j k b d d' a2 a1 b2 b1
      · obtain ⟨c, ec, _, _, _, hn⟩ := h.at_ j _ _ a2 a1
        cases ec
        exact (hn i' b3).elim
    · rcases args_hd h h2 with ⟨d', b1, b2⟩ | ⟨i', b1, b2, b3⟩
      · obtain ⟨c, ec, _, _, _, hn⟩ := h.at_ k _ _ b2 b1
        cases ec
        exact (hn i a3).elim
      · have e := s.dj i i' b a3 b3
        subst e
        exact nm_inj n a1 b1
theorem held_of {rs : List Rs} (h : rs.all (heldR ρ) = true) {j i : Nat} (e : rs[j]? = some (.nm i)) : ∃ d, ρ[i]? = some (.ow d) ∨ ρ[i]? = some (.lk d) := by
  have hm : Rs.nm i ∈ rs := List.mem_of_getElem? e
  have q := List.all_eq_true.mp h _ hm
  unfold heldR at q
  simp only at q
  cases z : ρ[i]? with
  | none => rw [z] at q; cases q
  | some s =>
    rw [z] at q
    cases s with
    | ow d => exact ⟨d, .inl rfl⟩
    | lk d => exact ⟨d, .inr rfl⟩
    | em => cases q
    | fz d => cases q
theorem call_ext {F₀ H₀ : Hp} {σ₀ : SS} {ρ₀ ρp : List Sl} {vs : List V} {rs : List Rs} (x : Ext K F₀ H₀ σ₀ ρ₀ F H σ ρ) (h : RsA K H₀ F H σ ρ vs rs) (n : nmOk rs = true) (hh : rs.all (heldR ρ) = true)
    (y : Ext K F H (vs.map some) (rs.map (slotOf ρ)) F' H' (vs.map some) ρp) : Ext K F₀ H₀ σ₀ ρ₀ F' H' σ (wb rs ρp ρ) ∧
      (∀ i b, HdAt σ (wb rs ρp ρ) i b → (∃ j, rs[j]? = some (.nm i) ∧ HdAt (vs.map some) ρp j b) ∨ ((∀ j : Nat, rs[j]? ≠ some (Rs.nm i)) ∧ HdAt σ ρ i b)) := by
  have hlp : rs.length = ρp.length := by
    have := y.st.len
    rw [List.length_map] at this
    rw [← h.len]; exact this
  -- where a slot of ours comes from
  have slot : ∀ (i : Nat) (s : Sl), (wb rs ρp ρ)[i]? = some s → (∃ j : Nat, rs[j]? = some (Rs.nm i) ∧ ρp[j]? = some s ∧ ∃ v, vs[j]? = some v ∧ σ[i]? = some (some v)) ∨ ((∀ j : Nat, rs[j]? ≠ some (Rs.nm i)) ∧ ρ[i]? = some s) := fun i s e => by
    have hi : i < ρ.length := by
      have := (List.getElem?_eq_some_iff.mp e).1
      rw [wb_len] at this; exact this
    rcases wb_get (ρ := ρ) n hlp hi with ⟨j, s', q1, q2, q3⟩ | ⟨q1, q2⟩
    · rw [e] at q3; cases q3
      have hj : j < vs.length := by
        rw [h.len]
        exact (List.getElem?_eq_some_iff.mp q1).1
      exact .inl ⟨j, q1, q2, vs[j], List.getElem?_eq_getElem hj, h.at_ j _ _ (List.getElem?_eq_getElem hj) q1⟩
    · exact .inr ⟨q1, q2 ▸ e⟩
  have hdw : ∀ i b, HdAt σ (wb rs ρp ρ) i b → (∃ j, rs[j]? = some (.nm i) ∧ HdAt (vs.map some) ρp j b) ∨ ((∀ j : Nat, rs[j]? ≠ some (Rs.nm i)) ∧ HdAt σ ρ i b) := fun i b q => by
    rcases q with ⟨e, d, q⟩ | ⟨e, d, q⟩
    · rcases slot i _ q with ⟨j, q1, q2, v, q3, q4⟩ | ⟨q1, q2⟩
      · rw [e] at q4; cases q4
        exact .inl ⟨j, q1, .inl ⟨vs_at.mpr q3, d, q2⟩⟩
      · exact .inr ⟨q1, .inl ⟨e, d, q2⟩⟩
    · rcases slot i _ q with ⟨j, q1, q2, v, q3, q4⟩ | ⟨q1, q2⟩
      · rw [e] at q4; cases q4
        exact .inl ⟨j, q1, .inr ⟨vs_at.mpr q3, d, q2⟩⟩
      · exact .inr ⟨q1, .inr ⟨e, d, q2⟩⟩
  -- a slot of ours that was not lent: the callee doesn't touch what it holds
  have apart : ∀ i b, (∀ j : Nat, rs[j]? ≠ some (Rs.nm i)) → HdAt σ ρ i b → ∀ j, ¬ HdAt (vs.map some) (rs.map (slotOf ρ)) j b := fun i b hn q j z => by
    rcases args_hd h z with ⟨d, a1, a2⟩ | ⟨i', a1, a2, a3⟩
    · obtain ⟨c, ec, _, _, _, hn'⟩ := h.at_ j _ _ a2 a1
      cases ec
      exact hn' i q
    · have e := x.st.dj i i' b q a3
      subst e
      exact hn j a1
  -- what a lent slot holds behind the call it held ahead of it
  have lent : ∀ i j b, rs[j]? = some (.nm i) → HdAt (vs.map some) ρp j b → HdAt σ ρ i b := fun i j b q z => by
    have e : (vs.map some)[j]? = some (some (.ref b)) := by rcases z with z | z <;> exact z.1
    have es : σ[i]? = some (some (.ref b)) := h.at_ j _ _ (vs_at.mp e) q
    obtain ⟨d, r | r⟩ := held_of hh q
    · exact .inl ⟨es, d, r⟩
    · exact .inr ⟨es, d, r⟩
  have old : ∀ i b, HdAt σ (wb rs ρp ρ) i b → HdAt σ ρ i b := fun i b q => by
    rcases hdw i b q with ⟨j, a1, a2⟩ | ⟨_, a⟩
    · exact lent i j b a1 a2
    · exact a
  have noOw : ∀ b, H₀ b ≠ none → (∀ i, ¬ OwAt σ₀ ρ₀ i b) → ∀ j, ¬ OwAt (vs.map some) (rs.map (slotOf ρ)) j b := fun b e nb j z => by
    rcases args_ow h z with ⟨d, a1, a2⟩ | ⟨i, a1, a2, a3⟩
    · obtain ⟨c, ec, h0, _⟩ := h.at_ j _ _ a2 a1
      cases ec
      exact e h0
    · rcases x.ow i b a3 with w | w
      · exact nb i w
      · exact e w
  have noHd : ∀ b, H₀ b ≠ none → (∀ i, ¬ HdAt σ₀ ρ₀ i b) → ∀ j, ¬ HdAt (vs.map some) (rs.map (slotOf ρ)) j b := fun b e nb j z => by
    rcases args_hd h z with ⟨d, a1, a2⟩ | ⟨i, a1, a2, a3⟩
    · obtain ⟨c, ec, h0, _⟩ := h.at_ j _ _ a2 a1
      cases ec
      exact e h0
    · rcases x.hd a3 with w | w
      · exact nb i w
      · exact e w
  refine ⟨⟨⟨y.st.le, by rw [wb_len]; exact x.st.len, fun i s q => ?_, fun i k b h1 h2 => x.st.dj i k b (old i b h1) (old k b h2)⟩, x.fr.trans y.fr,
    fun b o e nb => y.kp b o (x.kp b o e nb) (noOw b (by rw [e]; exact fun z => nomatch z) nb), fun b e nb q => y.nf b (x.gr b e) (noHd b e nb) (x.nf b e nb q), fun b e => y.gr b (x.gr b e), fun i b q => ?_, fun i b q => ?_⟩, hdw⟩
  · rcases slot i s q with ⟨j, q1, q2, v, q3, q4⟩ | ⟨q1, q2⟩
    · have z := y.st.sl j s q2
      rw [show (vs.map some)[j]? = some (some v) from vs_at.mpr q3] at z
      rw [q4]; exact z
    · have z := x.st.sl i s q2
      cases s with
      | em => trivial
      | fz d => obtain ⟨v, e, r⟩ := z; exact ⟨v, e, r.mono y.fr⟩
      | ow d =>
        obtain ⟨a, e, nf, o⟩ := z
        obtain ⟨ob, eo⟩ := o.some
        have ap := apart i a q1 (.inl ⟨e, d, q2⟩)
        exact ⟨a, e, y.nf a o.ne ap nf, o.mono y.fr ((y.kp a ob eo fun j w => ap j (.inl w)).trans eo.symm)⟩
      | lk d =>
        obtain ⟨a, e, nf, o⟩ := z
        obtain ⟨ob, eo⟩ := o.some
        have ap := apart i a q1 (.inr ⟨e, d, q2⟩)
        exact ⟨a, e, y.nf a o.ne ap nf, o.mono y.fr ((y.kp a ob eo fun j w => ap j (.inl w)).trans eo.symm)⟩
  · obtain ⟨e, d, q⟩ := q
    rcases slot i _ q with ⟨j, q1, q2, v, q3, q4⟩ | ⟨q1, q2⟩
    · rw [e] at q4; cases q4
      rcases y.ow j b ⟨vs_at.mpr q3, d, q2⟩ with w | w
      · rcases args_ow h w with ⟨d', a1, a2⟩ | ⟨i', a1, a2, a3⟩
        · rw [q1] at a1; cases a1
        · rw [q1] at a1; cases a1; exact x.ow i b a3
      · exact .inr (x.back w)
    · exact x.ow i b ⟨e, d, q2⟩
  · obtain ⟨e, d, q⟩ := q
    rcases slot i _ q with ⟨j, q1, q2, v, q3, q4⟩ | ⟨q1, q2⟩
    · rw [e] at q4; cases q4
      rcases y.lk j b ⟨vs_at.mpr q3, d, q2⟩ with w | w
      · rcases args_hd h w with ⟨d', a1, a2⟩ | ⟨i', a1, a2, a3⟩
        · rw [q1] at a1; cases a1
        · rw [q1] at a1; cases a1; exact x.hd a3
      · exact .inr (x.back w)
    · exact x.hd (.inr ⟨e, d, q2⟩)
/-- a def's promise, by its function of slots -/
def spD (K : KW) (n : Nat) (sem : M Rs) : Sp := fun vs H Q _ => vs.length = n ∧ tSem K sem (vs.map some) H Q
theorem sem_call {ls : List Bool} {sem : M Rs} {f : M (List Rs)} {n : Nat} {E : XK} (hn : ls.length = n) : ∀ σ H Q, tSem K (dCall ls sem f) σ H Q → tCall (spD K n sem) [] E (tSemA K f) σ H Q := fun σ H Q ⟨F, ρ, r, ρ', s, e, k⟩ => by
  obtain ⟨rs, ρ1, e1, e⟩ := bd_ok e
  obtain ⟨rs', ρ2, e2, e⟩ := bd_ok e
  split at e
  case isFalse => cases e
  case isTrue hc =>
    rw [Bool.and_eq_true] at hc
    refine ⟨F, ρ, rs, ρ1, s, e1, fun F1 H1 vs x1 q1 => ?_⟩
    obtain ⟨F2, x2, q2, _⟩ := argSA_ok x1 q1 e2
    have hlen : (vs ++ []).length = n := by
      rw [List.append_nil, q1.len, ← hn]
      exact argSA_len e2
    refine ⟨hlen, ?_⟩
    rw [List.append_nil]
    cases es : sem (rs'.map (slotOf ρ2)) with
    | bad => rw [es] at e; cases e
    | ok r0 ρp =>
      rw [es] at e
      refine ⟨F2, _, r0, ρp, args_sta x2.st q2 hc.1, es, fun F3 H3 v y qr => ?_⟩
      obtain ⟨x3, hd3⟩ := call_ext x2 q2 hc.1 hc.2 y
      cases r0 with
      | nm i => cases e
      | fz d => cases e; exact k F3 H3 v x3 qr
      | ow d =>
        cases e
        obtain ⟨a, ea, h0, hf, ho, hn⟩ := qr
        refine k F3 H3 v x3 ⟨a, ea, x2.back h0, hf, ho, fun i z => ?_⟩
        rcases hd3 i a z with ⟨j, _, w⟩ | ⟨_, w⟩
        · exact hn j w
        · obtain ⟨_, d', o⟩ := x2.st.held w
          exact o.ne h0
end
end DL
namespace DL
open PySem PySem.Spec PyProof.Rows L2
section
variable {K : KW} {F H F' H' : Hp} {σ σ' : SS} {ρ ρ' : List Sl}
/-! ### statements -/
/-- the slots of P hold what they held -/
def Prot (P : Nat → Prop) (σ σ' : SS) : Prop := σ'.length = σ.length ∧ ∀ i, P i → σ'[i]? = σ[i]?
theorem Prot.refl {P : Nat → Prop} : Prot P σ σ := ⟨rfl, fun _ _ => rfl⟩
theorem Prot.trans {P : Nat → Prop} {σ2 : SS} (a : Prot P σ σ') (b : Prot P σ' σ2) : Prot P σ σ2 := ⟨b.1.trans a.1, fun i h => (b.2 i h).trans (a.2 i h)⟩
def SRok (K : KW) (P : Nat → Prop) (F H : Hp) (σ : SS) (ρ : List Sl) (Dn : Ends) : SR → Prop
  | .nx ρ' => ∀ F' H' σ', Ext K F H σ ρ F' H' σ' ρ' → Prot P σ σ' → Dn.nx σ' H'
  | .bk ρ' => ∀ F' H' σ', Ext K F H σ ρ F' H' σ' ρ' → Prot P σ σ' → Dn.bk σ' H'
  | .ct ρ' => ∀ F' H' σ', Ext K F H σ ρ F' H' σ' ρ' → Prot P σ σ' → Dn.ct σ' H'
  | .rt r ρ' => ∀ F' H' σ' v, Ext K F H σ ρ F' H' σ' ρ' → Prot P σ σ' → RsR K H F' H' σ' ρ' v r → Dn.rt v H'
  | .bad => False
def tSemS (K : KW) (P : Nat → Prop) (f : DS) : TS := fun Dn σ H => ∃ F ρ, Sta K F H σ ρ ∧ SRok K P F H σ ρ Dn (f ρ)
theorem SRok.after {P : Nat → Prop} {F₀ H₀ : Hp} {σ₀ : SS} {ρ₀ : List Sl} {Dn : Ends} {sr : SR} (x : Ext K F₀ H₀ σ₀ ρ₀ F H σ ρ) (p : Prot P σ₀ σ) (h : SRok K P F₀ H₀ σ₀ ρ₀ Dn sr) : SRok K P F H σ ρ Dn sr := by
  cases sr with
  | nx ρ' => exact fun F' H' σ' y q => h F' H' σ' (x.trans y) (p.trans q)
  | bk ρ' => exact fun F' H' σ' y q => h F' H' σ' (x.trans y) (p.trans q)
  | ct ρ' => exact fun F' H' σ' y q => h F' H' σ' (x.trans y) (p.trans q)
  | rt r ρ' => exact fun F' H' σ' v y q k => h F' H' σ' v (x.trans y) (p.trans q) (k.base fun a z => x.back z)
  | bad => exact h
def dSeq (f g : DS) : DS := fun ρ => match f ρ with
  | .nx ρ' => g ρ'
  | .rt r ρ' => .rt r ρ'
  | .bk ρ' => .bk ρ'
  | .ct ρ' => .ct ρ'
  | .bad => .bad
def dPass : DS := fun ρ => .nx ρ
def dBrk : DS := fun ρ => .bk ρ
def dCnt : DS := fun ρ => .ct ρ
def dRet (f : M Rs) : DS := fun ρ => match f ρ with
  | .ok r ρ' => .rt r ρ'
  | .bad => .bad
def dDrop (f : M Rs) : DS := fun ρ => match f ρ with
  | .ok _ ρ' => .nx ρ'
  | .bad => .bad
def dIf (c : M Bool) (f g : DS) : DS := fun ρ => match c ρ with
  | .ok true ρ' => f ρ'
  | .ok false ρ' => g ρ'
  | .bad => .bad
section
variable {P : Nat → Prop}
theorem sem_seq {f g : DS} : ∀ D σ H, tSemS K P (dSeq f g) D σ H → tSeq (tSemS K P f) (tSemS K P g) D σ H := fun D σ H ⟨F, ρ, s, h⟩ => by
  refine ⟨F, ρ, s, ?_⟩
  unfold dSeq at h
  cases e : f ρ with
  | nx ρ' => rw [e] at h; exact fun F' H' σ' x p => ⟨F', ρ', x.st, h.after x p⟩
  | rt r ρ' => rw [e] at h; exact h
  | bk ρ' => rw [e] at h; exact h
  | ct ρ' => rw [e] at h; exact h
  | bad => rw [e] at h; exact h
theorem sem_pass : ∀ D σ H, tSemS K P dPass D σ H → tNext D σ H := fun D σ H ⟨F, ρ, s, h⟩ => h F H σ (Ext.refl s) Prot.refl
theorem sem_ret {f : M Rs} : ∀ D σ H, tSemS K P (dRet f) D σ H → tRet (tSem K f) D σ H := fun D σ H ⟨F, ρ, s, h⟩ => by
  unfold dRet at h
  cases e : f ρ with
  | bad => rw [e] at h; exact h.elim
  | ok r ρ' => rw [e] at h; exact ⟨F, ρ, r, ρ', s, e, fun F' H' v x q => h F' H' σ v x Prot.refl q⟩
theorem sem_drop {f : M Rs} : ∀ D σ H, tSemS K P (dDrop f) D σ H → tDrop (tSem K f) D σ H := fun D σ H ⟨F, ρ, s, h⟩ => by
  unfold dDrop at h
  cases e : f ρ with
  | bad => rw [e] at h; exact h.elim
  | ok r ρ' => rw [e] at h; exact ⟨F, ρ, r, ρ', s, e, fun F' H' v x q => h F' H' σ x Prot.refl⟩
theorem sem_if {c : M Bool} {f g : DS} : ∀ D σ H, tSemS K P (dIf c f g) D σ H → tIfS (tSemT K c) (tSemS K P f) (tSemS K P g) D σ H := fun D σ H ⟨F, ρ, s, h⟩ => by
  unfold dIf at h
  cases e : c ρ with
  | bad => rw [e] at h; exact h.elim
  | ok b ρ' =>
    rw [e] at h
    refine ⟨F, ρ, b, ρ', s, e, fun F' H' x => ?_⟩
    cases b with
    | true => exact iteT ⟨F', ρ', x.st, h.after x Prot.refl⟩
    | false => exact iteF ⟨F', ρ', x.st, h.after x Prot.refl⟩
section
variable {X : Cx} {st : Stmt} {rest : List Stmt} {f g : DS} {e : Expr} {fe : M Rs} {pos : Pos}
theorem sn : PSs X [] (tSemS X.kw P dPass) := pssWeak pss_nil sem_pass
theorem sc (h1 : PS X st (tSemS X.kw P f)) (h2 : PSs X rest (tSemS X.kw P g)) : PSs X (st :: rest) (tSemS X.kw P (dSeq f g)) := pssWeak (pss_cons h1 h2) sem_seq
theorem s1 (h1 : PS X st (tSemS X.kw P f)) : PSs X [st] (tSemS X.kw P f) := pss_one h1
theorem sret (h : PE X e (tSem X.kw fe)) : PS X (.Return (some e) pos) (tSemS X.kw P (dRet fe)) := psWeak (ps_ret h) sem_ret
theorem sex (h : PE X e (tSem X.kw fe)) (hs : swapsWith e none pos.line X.env = pure false := by rfl) : PS X (.Expr e pos) (tSemS X.kw P (dDrop fe)) := psWeak (ps_expr h hs) sem_drop
theorem sif {c : Expr} {a b : List Stmt} {tc : M Bool} (hc : PT X c (tSemT X.kw tc)) (ha : PSs X a (tSemS X.kw P f)) (hb : PSs X b (tSemS X.kw P g)) : PS X (.If c a b pos) (tSemS X.kw P (dIf tc f g)) := psWeak (ps_if hc ha hb) sem_if
end
/-! ### stores -/
theorem Ext.setSlot {F₀ H₀ : Hp} {σ₀ : SS} {ρ₀ : List Sl} {i : Nat} {v : V} {s : Sl} (x : Ext K F₀ H₀ σ₀ ρ₀ F H σ ρ) (hi : i < ρ.length)
    (hs : (∃ d, s = .fz d ∧ Rp K F v d) ∨ (∃ d a, s = .ow d ∧ v = .ref a ∧ H₀ a = none ∧ F a = none ∧ Ob K F H a d ∧ ∀ i, ¬ HdAt σ ρ i a)) :
    Ext K F₀ H₀ σ₀ ρ₀ F H (σ.set i (some v)) (ρ.set i s) := by
  have hiσ : i < σ.length := by rw [x.st.len]; exact hi
  have owB : ∀ j b, OwAt (σ.set i (some v)) (ρ.set i s) j b → (j ≠ i ∧ OwAt σ ρ j b) ∨ (j = i ∧ v = .ref b ∧ H₀ b = none ∧ ∀ i, ¬ HdAt σ ρ i b) := fun j b ⟨e, d, q⟩ => by
    by_cases hj : i = j
    · subst hj
      rw [List.getElem?_set_self hiσ] at e
      rw [List.getElem?_set_self hi] at q
      cases e; cases q
      rcases hs with ⟨d', e1, _⟩ | ⟨d', a, e1, e2, e3, _, _, e4⟩
      · cases e1
      · cases e2; exact .inr ⟨rfl, rfl, e3, e4⟩
    · rw [List.getElem?_set_ne hj] at e q
      exact .inl ⟨fun z => hj z.symm, e, d, q⟩
  have lkB : ∀ j b, LkAt (σ.set i (some v)) (ρ.set i s) j b → j ≠ i ∧ LkAt σ ρ j b := fun j b ⟨e, d, q⟩ => by
    by_cases hj : i = j
    · subst hj
      rw [List.getElem?_set_self hi] at q
      cases q
      rcases hs with ⟨d', e1, _⟩ | ⟨d', a, e1, _⟩ <;> cases e1
    · rw [List.getElem?_set_ne hj] at e q
      exact ⟨fun z => hj z.symm, e, d, q⟩
  refine ⟨⟨x.st.le, by rw [List.length_set, List.length_set]; exact x.st.len, fun j sl q => ?_, fun j k b h1 h2 => ?_⟩, x.fr, x.kp, x.nf, x.gr, fun j b q => ?_, fun j b q => ?_⟩
  · by_cases hj : i = j
    · subst hj
      rw [List.getElem?_set_self hi] at q; cases q
      rw [List.getElem?_set_self hiσ]
      rcases hs with ⟨d, rfl, r⟩ | ⟨d, a, rfl, rfl, _, h1, h2, _⟩
      · exact ⟨v, rfl, r⟩
      · exact ⟨a, rfl, h1, h2⟩
    · rw [List.getElem?_set_ne hj] at q ⊢
      exact x.st.sl j sl q
  · have c1 : (j ≠ i ∧ HdAt σ ρ j b) ∨ (j = i ∧ ∀ i, ¬ HdAt σ ρ i b) := by
      rcases h1 with h1 | h1
      · rcases owB j b h1 with ⟨n, z⟩ | ⟨n, _, _, z⟩
        · exact .inl ⟨n, .inl z⟩
        · exact .inr ⟨n, z⟩
      · exact .inl ⟨(lkB j b h1).1, .inr (lkB j b h1).2⟩
    have c2 : (k ≠ i ∧ HdAt σ ρ k b) ∨ (k = i ∧ ∀ i, ¬ HdAt σ ρ i b) := by
      rcases h2 with h2 | h2
      · rcases owB k b h2 with ⟨n, z⟩ | ⟨n, _, _, z⟩
        · exact .inl ⟨n, .inl z⟩
        · exact .inr ⟨n, z⟩
      · exact .inl ⟨(lkB k b h2).1, .inr (lkB k b h2).2⟩
    rcases c1 with ⟨_, z1⟩ | ⟨n1, z1⟩
    · rcases c2 with ⟨_, z2⟩ | ⟨n2, z2⟩
      · exact x.st.dj j k b z1 z2
      · exact (z2 j z1).elim
    · rcases c2 with ⟨_, z2⟩ | ⟨n2, z2⟩
      · exact (z1 k z2).elim
      · rw [n1, n2]
  · rcases owB j b q with ⟨_, z⟩ | ⟨_, _, z, _⟩
    · exact x.ow j b z
    · exact .inr z
  · exact x.lk j b (lkB j b q).2
/-- what slot i becomes by r -/
def setR (i : Nat) (r : Rs) : List Sl → Option (List Sl) := fun ρ => if i < ρ.length then match r with
    | .fz d => some (ρ.set i (.fz d))
    | .ow d => some (ρ.set i (.ow d))
    | .nm j => match frz (.nm j) ρ with
      | .ok d ρ' => some (ρ'.set i (.fz d))
      | .bad => none
  else none
def dSet (i : Nat) (f : M Rs) : DS := fun ρ => match f ρ with
  | .bad => .bad
  | .ok r ρ1 => match setR i r ρ1 with
    | some ρ2 => .nx ρ2
    | none => .bad
theorem frz_len {r : Rs} {d : D} (h : frz r ρ = .ok d ρ') : ρ'.length = ρ.length := by
  cases r with
  | fz d' => cases h; rfl
  | ow d' => cases h; rfl
  | nm i =>
    unfold frz at h
    simp only at h
    cases q : ρ[i]? with
    | none => rw [q] at h; cases h
    | some s =>
      rw [q] at h
      cases s <;> cases h <;> simp
theorem setR_ok {F₀ H₀ : Hp} {σ₀ : SS} {ρ₀ : List Sl} {i : Nat} {v : V} {r : Rs} (x : Ext K F₀ H₀ σ₀ ρ₀ F H σ ρ) (h : RsR K H₀ F H σ ρ v r) (e : setR i r ρ = some ρ') :
    ∃ F', Ext K F₀ H₀ σ₀ ρ₀ F' H (σ.set i (some v)) ρ' := by
  unfold setR at e
  split at e
  case isFalse => cases e
  case isTrue hi =>
    cases r with
    | fz d => cases e; exact ⟨F, x.setSlot hi (.inl ⟨d, rfl, h⟩)⟩
    | ow d =>
      cases e
      obtain ⟨a, e1, e2, e3, e4, e5⟩ := h
      exact ⟨F, x.setSlot hi (.inr ⟨d, a, rfl, e1, e2, e3, e4, e5⟩)⟩
    | nm j =>
      cases q : frz (.nm j) ρ with
      | bad => simp only [q] at e; cases e
      | ok d ρ1 =>
        simp only [q] at e
        cases e
        obtain ⟨F', x', rp⟩ := frz_ok x h q
        exact ⟨F', x'.setSlot (by rw [frz_len q]; exact hi) (.inl ⟨d, rfl, rp⟩)⟩
theorem prot_set {i : Nat} {v : Option V} (h : ¬ P i) : Prot P σ (σ.set i v) := ⟨by rw [List.length_set], fun j hj => by
  rw [List.getElem?_set_ne]
  exact fun z => h (z ▸ hj)⟩
theorem sem_set {i : Nat} {f : M Rs} (hP : ¬ P i) : ∀ D σ H, tSemS K P (dSet i f) D σ H → tAsg (tSem K f) (gName i) D σ H := fun D σ H ⟨F, ρ, s, h⟩ => by
  unfold dSet at h
  cases e : f ρ with
  | bad => rw [e] at h; exact h.elim
  | ok r ρ1 =>
    rw [e] at h
    cases e2 : setR i r ρ1 with
    | none => simp only [e2] at h; exact h.elim
    | some ρ2 =>
      simp only [e2] at h
      refine ⟨F, ρ, r, ρ1, s, e, fun F' H' v x q => ?_⟩
      obtain ⟨F2, x2⟩ := setR_ok x q e2
      exact h F2 H' _ x2 (prot_set hP)
/-! ### targets that take values for good -/
abbrev DG := D → List Sl → Option (List Sl)
def tSemG (K : KW) (P : Nat → Prop) (g : DG) : TG := fun v σ H Q => ∃ F ρ d ρ', Sta K F H σ ρ ∧ Rp K F v d ∧ g d ρ = some ρ' ∧ ∀ σ', Ext K F H σ ρ F H σ' ρ' → Prot P σ σ' → Q σ' H
abbrev DGs := List D → List Sl → Option (List Sl)
def tSemGs (K : KW) (P : Nat → Prop) (g : DGs) : TGs := fun v σ H Q => ∃ F ρ d ρ', Sta K F H σ ρ ∧ RpA K F v d ∧ g d ρ = some ρ' ∧ ∀ σ', Ext K F H σ ρ F H σ' ρ' → Prot P σ σ' → Q σ' H
theorem pgWeak {X : Cx} {e : Expr} {t t' : TG} (h : PG X e t) (w : ∀ v σ H Q, t' v σ H Q → t v σ H Q) : PG X e t' :=
  ⟨fun pins s σ H v u Q I r q => h.run pins s σ H v u Q I r (w v σ H Q q)⟩
theorem pgsWeak {X : Cx} {e : List Expr} {t t' : TGs} (h : PGs X e t) (w : ∀ v σ H Q, t' v σ H Q → t v σ H Q) : PGs X e t' :=
  ⟨fun pins s σ H v u Q I r q => h.run pins s σ H v u Q I r (w v σ H Q q)⟩
def gN (i : Nat) : DG := fun d ρ => if i < ρ.length then some (ρ.set i (.fz d)) else none
def gsN : DGs := fun ds ρ => match ds with
  | [] => some ρ
  | _ => none
def gsC (g : DG) (gs : DGs) : DGs := fun ds ρ => match ds with
  | d :: ds => match g d ρ with
    | some ρ' => gs ds ρ'
    | none => none
  | [] => none
def gT (n : Nat) (gs : DGs) : DG := fun d ρ => match d with
  | .tuple ds => if ds.length = n then gs ds ρ else none
  | .list ds => if ds.length = n then gs ds ρ else none
  | _ => none
/-! a, b = a list -/
theorem draw_list {prog : Program} {w : World} {A : Around} {E : Value → Shared → Prop} {it t : Addr} {items : Array Value} (hne : t ≠ it) : ∀ (n i : Nat) (s : Shared) (Q : List Value → Shared → Prop), s.heap.IsListIter it t i → s.heap.IsList t items → i + n ≤ items.size →
    (∀ h', h'.IsListIter it t (i + n) → Heap.SameBut it s.heap h' → Q ((items.toList.drop i).take n) { s with heap := h' }) → wpAny (model prog w) A (draw (.ref it) n) Q E s
  | 0, i, s, Q, hit, _, _, hQ => by
    show wpAny _ _ (pure []) Q E s
    exact wpAny_pure (by simpa using hQ s.heap hit (Heap.SameBut.refl ..))
  | n + 1, i, s, Q, hit, ht, hle, hQ => by
    have hlt : i < items.size := by omega
    show wpAny _ _ (pyNext (.ref it) >>= _) Q E s
    refine wpAny_bind (wpAny_pyNext_list_item hit ht (x := items[i]) (by simp [hlt]) fun h₁ hit₁ hs₁ => ?_)
    refine wpAny_bind (wpAny_holding (draw_list hne n (i + 1) _ _ hit₁ (ht.extBut hs₁.extBut hne) (by omega) fun h₂ hit₂ hs₂ => wpAny_pure ?_))
    have hd : items.toList.drop i = items[i] :: items.toList.drop (i + 1) := by simp [List.drop_eq_getElem_cons, hlt]
    have := hQ h₂ (by rw [show i + (n + 1) = i + 1 + n by omega]; exact hit₂) (hs₁.trans hs₂)
    rw [hd, List.take_succ_cons] at this
    exact this
theorem unpackItems_list {prog : Program} {w : World} {A : Around} {E : Value → Shared → Prop} {s : Shared} {t : Addr} {items : Array Value} {Q : List Value → Shared → Prop} (hh : A.handled = none) (ht : s.heap.IsList t items)
    (hQ : ∀ h', Heap.ExtBut s.heap.objs.size s.heap h' → Q items.toList { s with heap := h' }) : wpAny (model prog w) A (unpackItems (.ref t) items.size none) Q E s := by
  have hlt : t ≠ s.heap.objs.size := by obtain ⟨o, ho, _⟩ := ht; exact Nat.ne_of_lt (Heap.lt_size ho)
  unfold unpackItems
  refine wpAny_bind ?_
  · unfold notIterableAtAll
    refine wpAny_bind (wpAny_specialOf ht.typeIs slot_list_iter.lookup ?_)
    refine wpAny_pure ?_
    simp only [Bool.false_eq_true, if_false]
    refine wpAny_bind (wpAny_holding (wpAny_pyIter_list ht ?_))
    refine wpAny_bind (wpAny_holding (draw_list hlt items.size 0 _ _ ⟨_, Heap.get?_push_size _ rfl, rfl, rfl⟩ (let ⟨o, ho, r⟩ := ht; ⟨o, Heap.get?_push_of_some _ ho, r⟩) (by omega) fun h₁ hit₁ hs₁ => ?_))
    have hall : List.take items.size (List.drop 0 items.toList) = items.toList := by
      rw [List.drop_zero]; exact List.take_of_length_le (by simp)
    rw [hall]
    rw [if_neg (by simp)]
    have ht₁ : h₁.IsList t items := Heap.IsList.extBut (let ⟨o, ho, r⟩ := ht; ⟨o, Heap.get?_push_of_some _ ho, r⟩) hs₁.extBut hlt
    refine wpAny_bind (wpAny_holding (wpAny_pyNext_list_end hh hit₁ ht₁ (by simp) fun h₂ he₂ => ?_))
    simp only [Option.isSome_none, Bool.false_eq_true, if_false]
    refine wpAny_pure (hQ h₂ fun b o hb e => he₂ b o hb (hs₁.extBut b o hb (Heap.get?_push_of_some _ e)))
theorem assign_Tuple_list {prog : Program} {w : World} {A : Around} {E : Value → Shared → Prop} {s : Shared} {env : Env} {elts : List Expr} {x1} {pos : Pos} {t : Addr} {items : Array Value} {Q : Unit → Shared → Prop} (hh : A.handled = none) (ht : s.heap.IsList t items)
    (hn : (assignEach elts env).length = items.size) (hstar : (assignEach elts env).findIdx? (·.1) = none)
    (h : ∀ h', Heap.ExtBut s.heap.objs.size s.heap h' → wpAny (model prog w) A (assignInOrder ((assignEach elts env).map (·.2)) items.toList) Q E { s with heap := h' }) :
    wpAny (model prog w) A (assign (.Tuple elts x1 pos) env (.ref t)) Q E s := by
  rw [assign_Tuple]
  refine wpAny_bind (wpAny_standAt ?_)
  unfold unpack
  rw [hn, hstar]
  exact wpAny_bind (wpAny_holding (unpackItems_list hh ht h))
def gTupL (K : KW) (n : Nat) (t : TGs) : TG := fun v σ H Q => ∃ a xs, v = .ref a ∧ SqL K H a xs ∧ xs.length = n ∧ t xs σ H Q
theorem pg_tupL {X : Cx} {pos : Pos} {es : List Expr} {k : Nat} {t : TGs} {n : Nat} (hc : X.calm = true) (h : PGs X es t)
    (hn : (assignEach es X.env).length = n := by rfl) (hst : (assignEach es X.env).findIdx? (·.1) = none := by rfl) : PG X (.Tuple es k pos) (gTupL X.kw n t) := by
  refine ⟨fun pins s σ H v u Q I r hw => ?_⟩
  obtain ⟨a, xs, e1, hq, hl, hw⟩ := hw
  subst e1
  cases r
  obtain ⟨its, rv, ht, hz⟩ := I.list hq
  refine assign_Tuple_list (I.ok.hd hc) ht.isList (by simp [hn, ← hl, rv.length]) hst fun h' hx => ?_
  have I1 : Inv X pins σ H { s with heap := h' } := I.kept (t' := s.toks) fun b o e => hx b o (Nat.ne_of_lt (Heap.lt_size e)) e
  exact h.run pins _ σ H xs _ Q I1 (by simpa using rv) hw
theorem pgOr {X : Cx} {e : Expr} {t t' : TG} (h : PG X e t) (h' : PG X e t') : PG X e fun v σ H Q => t v σ H Q ∨ t' v σ H Q := ⟨fun pins s σ H v u Q I r q => q.elim (h.run pins s σ H v u Q I r) (h'.run pins s σ H v u Q I r)⟩
theorem sem_gN {i : Nat} (hP : ¬ P i) : ∀ v σ H Q, tSemG K P (gN i) v σ H Q → gName i v σ H Q := fun v σ H Q ⟨F, ρ, d, ρ', s, r, e, k⟩ => by
  unfold gN at e
  split at e
  case isFalse => cases e
  case isTrue hi => cases e; exact k _ ((Ext.refl s).setSlot hi (.inl ⟨d, rfl, r⟩)) (prot_set hP)
theorem sem_gsN : ∀ v σ H Q, tSemGs K P gsN v σ H Q → gNil v σ H Q := fun v σ H Q ⟨F, ρ, d, ρ', s, r, e, k⟩ => by
  cases d with
  | cons _ _ => cases e
  | nil => cases e; cases r; exact ⟨rfl, k _ (Ext.refl s) Prot.refl⟩
theorem sem_gsC {g : DG} {gs : DGs} : ∀ v σ H Q, tSemGs K P (gsC g gs) v σ H Q → gCons (tSemG K P g) (tSemGs K P gs) v σ H Q := fun v σ H Q ⟨F, ρ, d, ρ', s, r, e, k⟩ => by
  cases d with
  | nil => cases e
  | cons d ds =>
    unfold gsC at e
    simp only at e
    cases e1 : g d ρ with
    | none => rw [e1] at e; cases e
    | some ρ1 =>
      rw [e1] at e
      cases r with
      | cons r rr =>
        exact ⟨_, _, rfl, F, ρ, d, ρ1, s, r, e1, fun σ1 x1 p1 => ⟨F, ρ1, ds, ρ', x1.st, rr, e, fun σ2 x2 p2 => k σ2 (x1.trans x2) (p1.trans p2)⟩⟩
theorem sem_gT {n : Nat} {gs : DGs} : ∀ v σ H Q, tSemG K P (gT n gs) v σ H Q → gTup K n (tSemGs K P gs) v σ H Q ∨ gTupL K n (tSemGs K P gs) v σ H Q := fun v σ H Q ⟨F, ρ, d, ρ', s, r, e, k⟩ => by
  cases d with
  | tuple ds =>
    unfold gT at e
    simp only at e
    split at e
    case isFalse => cases e
    case isTrue hn =>
      cases r with
      | tup h rr => exact .inl ⟨_, _, rfl, (tupD_mono s.le h).sq, by rw [rr.length]; exact hn, F, ρ, ds, ρ', s, rr, e, k⟩
  | list ds =>
    unfold gT at e
    simp only at e
    split at e
    case isFalse => cases e
    case isTrue hn =>
      cases r with
      | lst h rr => exact .inr ⟨_, _, rfl, .inl (rd_mono s.le h), by rw [rr.length]; exact hn, F, ρ, ds, ρ', s, rr, e, k⟩
  | _ => cases e
section
variable {X : Cx} {e : Expr} {es : List Expr} {g : DG} {gs : DGs} {pos : Pos}
theorem gn {i : Nat} {x : Str} (hP : ¬ P i) (hN : X.N.Nodup) (hi : X.N[i]? = some x) (hx : Loc X.env.scope x) (hf : X.fn x = true ∨ X.env.scope.names.lookup x = some .local := by first | exact .inl rfl | exact .inr rfl | assumption) : PG X (.Name x pos) (tSemG X.kw P (gN i)) :=
  pgWeak (pg_name hN hi hx hf) (sem_gN hP)
theorem gsn : PGs X [] (tSemGs X.kw P gsN) := pgsWeak pgs_nil sem_gsN
theorem gsc (h1 : PG X e (tSemG X.kw P g)) (h2 : PGs X es (tSemGs X.kw P gs))
    (hs : (assignEach (e :: es) X.env).map (·.2) = assign e X.env :: (assignEach es X.env).map (·.2) := by rfl) : PGs X (e :: es) (tSemGs X.kw P (gsC g gs)) := pgsWeak (pgs_cons h1 h2 hs) sem_gsC
theorem gt {k n : Nat} (hc : X.calm = true) (h : PGs X es (tSemGs X.kw P gs)) (hn : (assignEach es X.env).length = n := by rfl) (hst : (assignEach es X.env).findIdx? (·.1) = none := by rfl) : PG X (.Tuple es k pos) (tSemG X.kw P (gT n gs)) :=
  pgWeak (pgOr (pg_tup hc h hn hst) (pg_tupL hc h hn hst)) sem_gT
end
/-- a, b = a tuple; the targets take values for good -/
def dAsg (g : DG) (f : M Rs) : DS := fun ρ => match bd f frz ρ with
  | .bad => .bad
  | .ok d ρ1 => match g d ρ1 with
    | some ρ2 => .nx ρ2
    | none => .bad
theorem sem_asg {g : DG} {f : M Rs} : ∀ D σ H, tSemS K P (dAsg g f) D σ H → tAsg (tSem K f) (tSemG K P g) D σ H := fun D σ H ⟨F, ρ, s, h⟩ => by
  unfold dAsg at h
  cases e : bd f frz ρ with
  | bad => rw [e] at h; exact h.elim
  | ok d ρ1 =>
    rw [e] at h
    cases e2 : g d ρ1 with
    | none => simp only [e2] at h; exact h.elim
    | some ρ2 =>
      simp only [e2] at h
      obtain ⟨r, ρ3, e3, e4⟩ := bd_ok e
      refine ⟨F, ρ, r, ρ3, s, e3, fun F' H' v x q => ?_⟩
      obtain ⟨F2, x2, rp⟩ := frz_ok x q e4
      exact ⟨F2, ρ1, d, ρ2, x2.st, rp, e2, fun σ' y p => h F2 H' σ' (x2.trans y) p⟩
/-- a, b = x, y -/
def setQ (i : Nat) (r : Rs) : List Sl → Option (List Sl) := fun ρ => if i < ρ.length then match r with
    | .fz d => some (ρ.set i (.fz d))
    | .ow d => some (ρ.set i (.ow d))
    | .nm _ => none
  else none
def setQs : List Nat → List Rs → List Sl → Option (List Sl)
  | [], [], ρ => some ρ
  | i :: is, r :: rs, ρ => match setQ i r ρ with
    | some ρ' => setQs is rs ρ'
    | none => none
  | _, _, _ => none
def dPar (is : List Nat) (f : M (List Rs)) : DS := fun ρ => match bd f (argSA (is.map fun _ => false)) ρ with
  | .ok rs ρ2 => match setQs is rs ρ2 with
      | some ρ3 => .nx ρ3
      | none => .bad
  | .bad => .bad
section
variable {X : Cx} {e : Expr} {f : M Rs} {pos : Pos}
theorem sset {i : Nat} {x : Str} {pos' : Pos} (hP : ¬ P i) (hN : X.N.Nodup) (hi : X.N[i]? = some x) (hx : Loc X.env.scope x) (he : PE X e (tSem X.kw f)) (hs : swapsWith e (some (.Name x pos')) pos.line X.env = pure false := by rfl)
    (hf : X.fn x = true ∨ X.env.scope.names.lookup x = some .local := by first | exact .inl rfl | exact .inr rfl | assumption) : PS X (.Assign [.Name x pos'] e pos) (tSemS X.kw P (dSet i f)) := psWeak (ps_set hN hi hx he hs hf) (sem_set hP)
theorem sasg {tg : Expr} {g : DG} (he : PE X e (tSem X.kw f)) (hg : PG X tg (tSemG X.kw P g)) (hs : swapsWithSole [tg] e pos.line X.env = pure false := by rfl) (hw : swappedStores [tg] e X.env = pure none := by rfl)
    (h1 : (assignEach [tg] X.env).map (·.2) = [assign tg X.env] := by rfl) : PS X (.Assign [tg] e pos) (tSemS X.kw P (dAsg g f)) := psWeak (ps_asg he hg hs hw h1) sem_asg
end
end
end
end DL
namespace DL
open PySem PySem.Spec PyProof.Rows L2
section
variable {K : KW} {F H F' H' : Hp} {σ σ' : SS} {ρ ρ' : List Sl}
/-! ### what is walked -/
/-- the iterator J yields the items ds, from heaps that hold what F0 and N hold -/
def ItOk (K : KW) (F0 N : Hp) (J : It) (ds : List D) : Prop := ∀ (i : Nat) (F H : Hp), Same F0 F → Same F H → Same N H →
  (∀ d, ds[i]? = some d → J.go i H ∧ ∀ x H', J.yld i H x H' → ∃ F', Grow F H F' H' ∧ Rp K F' x d) ∧ (ds.length = i → J.stop i H)
abbrev Wk := List D × Option Nat
def unl (l : Option Nat) (ρ : List Sl) : List Sl := match l with
  | none => ρ
  | some i => match ρ[i]? with
    | some (.lk d) => ρ.set i (.ow d)
    | _ => ρ
/-- a lock may be opened again -/
def UnlOk (H : Hp) (σ : SS) (ρ ρ' : List Sl) (l : Option Nat) : Prop := ∀ i, l = some i → (∃ a, LkAt σ ρ' i a) ∧ ∀ b, LkAt σ ρ' i b → OwAt σ ρ i b ∨ H b = none
def tSemI (K : KW) (w : M Wk) : TI := fun σ H R => ∃ F ρ ds l ρ', Sta K F H σ ρ ∧ w ρ = .ok (ds, l) ρ' ∧ ∀ F' H' N J, Ext K F H σ ρ F' H' σ ρ' → UnlOk H σ ρ ρ' l → Same N H' → (∀ b, N b ≠ none → ∀ i, ¬ OwAt σ ρ' i b) → ItOk K F' N J ds → R J H'
theorem piWeak {X : Cx} {tg e : Expr} {t t' : TI} (h : PI X tg e t) (w : ∀ σ H Q, t' σ H Q → t σ H Q) : PI X tg e t' :=
  ⟨fun pins s σ H Q I q => h.run pins s σ H Q I (w σ H Q q)⟩
/-- a list, a tuple or a text -/
def iSeq (K : KW) (tl : TE) : TI := fun σ H R => tl σ H fun x H1 => (∃ a xs, x = .ref a ∧ SqL K H1 a xs ∧ R (Itl K a) H1) ∨ (∃ a xs, x = .ref a ∧ SqT K H1 a xs ∧ R (Itt K a) H1) ∨ (∃ z, x = .str z ∧ R (Its z) H1)
theorem pi_seq {X : Cx} {tg l : Expr} {tl : TE} (hl : PE X l tl) : PI X tg l (iSeq X.kw tl) := by
  refine ⟨fun pins s σ H R I h => ?_⟩
  refine thn (hl.run pins s σ H _ I h) fun v s1 ⟨x, H1, I1, r1, q1⟩ => ?_
  rcases q1 with ⟨a, xs, e, hq, q⟩ | ⟨a, xs, e, hq, q⟩ | ⟨z, e, q⟩
  · have h2 : PE X l (fun _ H Q => Q x H) → True := fun _ => trivial
    subst e
    cases r1
    obtain ⟨its, rv, p, hz⟩ := I1.list hq
    refine wpAny_pyIter_list p.isList ?_
    refine ⟨s1.heap.objs.size, [s1.heap.objs.size], _, _, H1, rfl, I1.kept (t' := s1.toks) fun b o e => Heap.get?_push_of_some _ e, turn_list a _, ⟨_, Heap.get?_push_size _ rfl, rfl, rfl⟩, fun b hb => ?_, q⟩
    have e : b = s1.heap.objs.size := by simpa using hb
    subst e
    exact I1.fpOk (Nat.le_refl _) (I1.hok.fresh (Nat.le_refl _))
  · subst e
    cases r1
    obtain ⟨its, rv, p, hz⟩ := I1.tuple hq
    refine wpAny_pyIter_tuple (show s1.heap.IsTuple a its.toArray from p) ?_
    refine ⟨s1.heap.objs.size, [s1.heap.objs.size], _, _, H1, rfl, I1.kept (t' := s1.toks) fun b o e => Heap.get?_push_of_some _ e, turn_tuple a _, ⟨_, Heap.get?_push_size _ rfl, rfl, rfl⟩, fun b hb => ?_, q⟩
    have e : b = s1.heap.objs.size := by simpa using hb
    subst e
    exact I1.fpOk (Nat.le_refl _) (I1.hok.fresh (Nat.le_refl _))
  · subst e
    obtain ⟨t, rfl⟩ := r1
    exact strIter I1 q
where
  strIter {X : Cx} {tg : Expr} {pins : List (Addr × Obj)} {σ : SS} {H1 : Hp} {s1 : Shared} {z : Str} {t : Tok} {R : It → Hp → Prop} (I1 : Inv X pins σ H1 s1) (q : R (Its z) H1) :
      wpAny (model X.prog X.w) X.A (pyIter (.str z t)) (PIE X pins σ tg R) X.xe s1 := by
    cases ha : z.cps.all (· < 128)
    · exact wpAny_pyIter_wide ha (pi_one (tk := s1.toks) I1 _ (turn_str _ z t "str_iterator" (.inr rfl)) ⟨_, Heap.get?_push_size _ rfl, rfl, rfl⟩ q)
    · exact wpAny_pyIter_ascii ha (pi_one (tk := s1.toks) I1 _ (turn_str _ z t "str_ascii_iterator" (.inl rfl)) ⟨_, Heap.get?_push_size _ rfl, rfl, rfl⟩ q)
def seqItems : D → Option (List D)
  | .list ds => some ds
  | .tuple ds => some ds
  | .str x => some (x.cps.toList.map fun c => .str ⟨#[c]⟩)
  | _ => none
def wkOf (l : Option Nat) (d : D) : M Wk := opt ((seqItems d).map fun ds => (ds, l))
def dWk (f : M Rs) : M Wk := bd f fun r => match r with
  | .fz d => wkOf none d
  | .ow d => wkOf none d
  | .nm i => fun ρ => match ρ[i]? with
    | some (.fz d) => wkOf none d ρ
    | some (.ow d) => wkOf (some i) d (ρ.set i (.lk d))
    | some (.lk d) => wkOf none d ρ
    | _ => .bad
theorem itok_list {F0 N : Hp} {a : Addr} {vs : List V} {ds : List D} (h : ∀ F H, Same F0 F → Same F H → Same N H → SqL K H a vs) (r : RpA K F0 vs ds) : ItOk K F0 N (Itl K a) ds := fun i F H s1 s2 s3 => by
  have q := h F H s1 s2 s3
  refine ⟨fun d hd => ?_, fun hi => ⟨vs, q, by rw [r.length]; exact Nat.le_of_eq hi⟩⟩
  have hi : i < vs.length := by rw [r.length]; exact (List.getElem?_eq_some_iff.mp hd).1
  refine ⟨⟨vs, vs[i], q, List.getElem?_eq_getElem hi⟩, fun x H' y => ?_⟩
  obtain ⟨e, y⟩ := y
  subst e
  exact ⟨F, Grow.refl s2, (r.get (y vs q) hd).mono s1⟩
theorem itok_tup {F0 N : Hp} {a : Addr} {vs : List V} {ds : List D} (h : ∀ F H, Same F0 F → Same F H → Same N H → SqT K H a vs) (r : RpA K F0 vs ds) : ItOk K F0 N (Itt K a) ds := fun i F H s1 s2 s3 => by
  have q := h F H s1 s2 s3
  refine ⟨fun d hd => ?_, fun hi => ⟨vs, q, by rw [r.length]; exact Nat.le_of_eq hi⟩⟩
  have hi : i < vs.length := by rw [r.length]; exact (List.getElem?_eq_some_iff.mp hd).1
  refine ⟨⟨vs, vs[i], q, List.getElem?_eq_getElem hi⟩, fun x H' y => ?_⟩
  obtain ⟨e, y⟩ := y
  subst e
  exact ⟨F, Grow.refl s2, (r.get (y vs q) hd).mono s1⟩
theorem itok_str {F0 N : Hp} {z : Str} : ItOk K F0 N (Its z) (z.cps.toList.map fun c => .str ⟨#[c]⟩) := fun i F H s1 s2 s3 => by
  refine ⟨fun d hd => ?_, fun hi => by show z.cps.size ≤ i; simp at hi; omega⟩
  rw [List.getElem?_map] at hd
  cases e : z.cps.toList[i]? with
  | none => rw [e] at hd; cases hd
  | some c =>
    rw [e] at hd
    cases hd
    have hi : i < z.cps.size := by
      have := (List.getElem?_eq_some_iff.mp e).1
      simpa using this
    refine ⟨hi, fun x H' y => ?_⟩
    obtain ⟨e1, c', e2, e3⟩ := y
    subst e1; subst e3
    have : z.cps[i]? = some c := by rw [← Array.getElem?_toList]; exact e
    rw [this] at e2; cases e2
    exact ⟨F, Grow.refl s2, .str _⟩
theorem Ext.lock {F₀ H₀ : Hp} {σ₀ : SS} {ρ₀ : List Sl} {i : Nat} {d : D} (x : Ext K F₀ H₀ σ₀ ρ₀ F H σ ρ) (hρ : ρ[i]? = some (.ow d)) : Ext K F₀ H₀ σ₀ ρ₀ F H σ (ρ.set i (.lk d)) := by
  have hi : i < ρ.length := (List.getElem?_eq_some_iff.mp hρ).1
  have owB : ∀ j b, OwAt σ (ρ.set i (.lk d)) j b → OwAt σ ρ j b := fun j b ⟨e, d', q⟩ => by
    by_cases hj : i = j
    · subst hj; rw [List.getElem?_set_self hi] at q; cases q
    · rw [List.getElem?_set_ne hj] at q; exact ⟨e, d', q⟩
  have lkB : ∀ j b, LkAt σ (ρ.set i (.lk d)) j b → HdAt σ ρ j b := fun j b ⟨e, d', q⟩ => by
    by_cases hj : i = j
    · subst hj; exact .inl ⟨e, d, hρ⟩
    · rw [List.getElem?_set_ne hj] at q; exact .inr ⟨e, d', q⟩
  have hdB : ∀ j b, HdAt σ (ρ.set i (.lk d)) j b → HdAt σ ρ j b := fun j b q => q.elim (fun z => .inl (owB j b z)) (lkB j b)
  refine ⟨⟨x.st.le, by rw [List.length_set]; exact x.st.len, fun j s q => ?_, fun j k b h1 h2 => x.st.dj j k b (hdB j b h1) (hdB k b h2)⟩, x.fr, x.kp, x.nf, x.gr, fun j b q => x.ow j b (owB j b q), fun j b q => x.hd (lkB j b q)⟩
  by_cases hj : i = j
  · subst hj
    rw [List.getElem?_set_self hi] at q; cases q
    have z := x.st.sl i _ hρ
    exact z
  · rw [List.getElem?_set_ne hj] at q; exact x.st.sl j s q
theorem unlNone {H : Hp} : UnlOk H σ ρ ρ' none := fun _ e => nomatch e
theorem sem_wk {f : M Rs} : ∀ σ H R, tSemI K (dWk f) σ H R → iSeq K (tSem K f) σ H R := fun σ H R ⟨F, ρ, ds, l, ρ', s, e, k⟩ => by
  obtain ⟨r, ρ1, e1, e⟩ := bd_ok e
  refine ⟨F, ρ, r, ρ1, s, e1, fun F1 H1 v x1 q1 => ?_⟩
  -- a value for good
  have good : ∀ (F2 : Hp) (d : D), Ext K F H σ ρ F2 H1 σ ρ1 → Rp K F2 v d → wkOf none d ρ1 = .ok (ds, l) ρ' →
      (∃ a xs, v = .ref a ∧ SqL K H1 a xs ∧ R (Itl K a) H1) ∨ (∃ a xs, v = .ref a ∧ SqT K H1 a xs ∧ R (Itt K a) H1) ∨ (∃ z, v = .str z ∧ R (Its z) H1) := fun F2 d x2 rp e => by
    obtain ⟨e2, e3⟩ := opt_ok e
    subst e3
    have fin : ∀ J, l = none → ItOk K F2 F2 J ds → R J H1 := fun J hl it => k F2 H1 F2 J x2 (hl ▸ unlNone) x2.st.le (fun b nb i z => nb (x2.st.held (.inl z)).1) it
    cases d with
    | list ds' =>
      cases e2
      cases rp with
      | lst hq ra => exact .inl ⟨_, _, rfl, .inl (rd_mono x2.st.le hq), fin _ rfl (itok_list (fun F' H' g1 g2 g3 => .inl (rd_mono g3 hq)) ra)⟩
    | tuple ds' =>
      cases e2
      cases rp with
      | tup hq ra => exact .inr (.inl ⟨_, _, rfl, sqT_mono x2.st.le hq.sq, fin _ rfl (itok_tup (fun F' H' g1 g2 g3 => sqT_mono g3 hq.sq) ra)⟩)
    | str z =>
      cases e2
      cases rp
      exact .inr (.inr ⟨z, rfl, fin _ rfl itok_str⟩)
    | _ => cases e2
  -- a list that slot i holds, locked
  have held : ∀ (i : Nat) (a : Addr) (d : D) (ρ2 : List Sl), v = .ref a → F1 a = none → Ob K F1 H1 a d → Ext K F H σ ρ F1 H1 σ ρ2 → (∀ j, ¬ OwAt σ ρ2 j a) → UnlOk H σ ρ ρ2 l → wkOf l d ρ2 = .ok (ds, l) ρ' →
      (∃ a xs, v = .ref a ∧ SqL K H1 a xs ∧ R (Itl K a) H1) ∨ (∃ a xs, v = .ref a ∧ SqT K H1 a xs ∧ R (Itt K a) H1) ∨ (∃ z, v = .str z ∧ R (Its z) H1) := fun i a d ρ2 hv hf ho x2 hno hu e => by
    obtain ⟨e2, e3⟩ := opt_ok e
    subst e3
    cases d with
    | list ds' =>
      cases e2
      obtain ⟨vs, eo, ra⟩ := ho
      refine .inl ⟨a, vs, hv, .inl (.inl eo), k F1 H1 (upd F1 a (.lst vs)) _ x2 hu (same_upd_le x2.st.le eo) (fun b nb j z => ?_) (itok_list (fun F' H' g1 g2 g3 => .inl (.inl (g3 _ _ upd_same))) ra)⟩
      by_cases hb : b = a
      · subst hb; exact hno j z
      · rw [upd_ne hb] at nb; exact nb (x2.st.held (.inl z)).1
    | dict _ => cases e2
    | _ => exact ho.elim
  cases r with
  | fz d => exact good F1 d x1 q1 e
  | ow d =>
    obtain ⟨a, e2, h0, hf, ho, hn⟩ := q1
    obtain ⟨F2, x2, rp, _⟩ := x1.freezeNew h0 hf ho hn
    subst e2
    exact good F2 d x2 rp e
  | nm i =>
    have q1 : σ[i]? = some (some v) := q1
    simp only at e
    cases q : ρ1[i]? with
    | none => rw [q] at e; cases e
    | some sl =>
      rw [q] at e
      have z := x1.st.sl i sl q
      cases sl with
      | em => cases e
      | fz d =>
        obtain ⟨w, w1, w2⟩ := z
        rw [q1] at w1; cases w1
        exact good F1 d x1 w2 e
      | ow d =>
        obtain ⟨a, w1, w2, w3⟩ := z
        rw [q1] at w1; cases w1
        have hi : i < ρ1.length := (List.getElem?_eq_some_iff.mp q).1
        have hl : l = some i := by
          have := (opt_ok e).1
          cases y : seqItems d with
          | none => rw [y] at this; cases this
          | some _ => rw [y] at this; cases this; rfl
        subst hl
        refine held i a d (ρ1.set i (.lk d)) rfl w2 w3 (x1.lock q) (fun j z => ?_) (fun j ej => ?_) e
        · obtain ⟨y, d', y2⟩ := z
          by_cases hj : i = j
          · subst hj; rw [List.getElem?_set_self hi] at y2; cases y2
          · rw [List.getElem?_set_ne hj] at y2
            exact hj (x1.st.dj i j a (.inl ⟨q1, d, q⟩) (.inl ⟨y, d', y2⟩))
        · cases ej
          exact ⟨⟨a, q1, d, List.getElem?_set_self hi⟩, fun b z => x1.ow i b ⟨z.1, d, q⟩⟩
      | lk d =>
        obtain ⟨a, w1, w2, w3⟩ := z
        rw [q1] at w1; cases w1
        have hl : l = none := by
          have := (opt_ok e).1
          cases y : seqItems d with
          | none => rw [y] at this; cases this
          | some _ => rw [y] at this; cases this; rfl
        subst hl
        refine held i a d ρ1 rfl w2 w3 x1 (fun j z => ?_) unlNone e
        have ej := x1.st.dj i j a (.inr ⟨q1, d, q⟩) (.inl z)
        subst ej
        obtain ⟨_, d', y2⟩ := z
        rw [q] at y2; cases y2
theorem iw {X : Cx} {tg e : Expr} {f : M Rs} (h : PE X e (tSem X.kw f)) : PI X tg e (tSemI X.kw (dWk f)) := piWeak (pi_seq h) sem_wk
/-! ### for -/
def unlS (l : Option Nat) : SR → SR
  | .nx ρ => .nx (unl l ρ)
  | .rt r ρ => .rt r (unl l ρ)
  | _ => .bad
def forGo (g : DG) (body : DS) : List D → DS
  | [], ρ => .nx ρ
  | d :: ds, ρ => match g d ρ with
    | none => .bad
    | some ρ1 => match body ρ1 with
      | .nx ρ2 => forGo g body ds ρ2
      | .ct ρ2 => forGo g body ds ρ2
      | .bk ρ2 => .nx ρ2
      | .rt r ρ2 => .rt r ρ2
      | .bad => .bad
def dFor (w : M Wk) (g : DG) (body : DS) : DS := fun ρ => match w ρ with
  | .bad => .bad
  | .ok (ds, l) ρ1 => unlS l (forGo g body ds ρ1)
theorem unl_len (l : Option Nat) (ρ : List Sl) : (unl l ρ).length = ρ.length := by
  unfold unl
  split
  · rfl
  · split
    · rw [List.length_set]
    · rfl
theorem unl_at {l : Option Nat} {j : Nat} : (unl l ρ)[j]? = ρ[j]? ∨ ∃ d, l = some j ∧ ρ[j]? = some (.lk d) ∧ (unl l ρ)[j]? = some (.ow d) := by
  unfold unl
  split
  · exact .inl rfl
  · rename_i i
    split
    · rename_i d e
      by_cases hj : i = j
      · subst hj
        exact .inr ⟨d, rfl, e, by rw [List.getElem?_set_self (List.getElem?_eq_some_iff.mp e).1]⟩
      · exact .inl (List.getElem?_set_ne hj)
    · exact .inl rfl
theorem unl_hd {l : Option Nat} {j : Nat} {b : Addr} (h : HdAt σ (unl l ρ) j b) : HdAt σ ρ j b := by
  rcases unl_at (ρ := ρ) (l := l) (j := j) with e | ⟨d, _, e1, e2⟩
  · unfold HdAt OwAt LkAt at h ⊢
    rw [e] at h; exact h
  · rcases h with ⟨h, _⟩ | ⟨h, _⟩ <;> exact .inr ⟨h, d, e1⟩
/-- behind a loop the lock is opened -/
theorem Ext.unlock {F₀ H₀ : Hp} {σ₀ : SS} {ρ₀ ρ₁ : List Sl} {F₁ H₁ : Hp} {l : Option Nat} (x0 : Ext K F₀ H₀ σ₀ ρ₀ F₁ H₁ σ₀ ρ₁) (hu : UnlOk H₀ σ₀ ρ₀ ρ₁ l) (x : Ext K F₁ H₁ σ₀ ρ₁ F H σ ρ) :
    Ext K F₀ H₀ σ₀ ρ₀ F H σ (unl l ρ) := by
  have y := x0.trans x
  have owB : ∀ j b, OwAt σ (unl l ρ) j b → OwAt σ ρ j b ∨ (l = some j ∧ LkAt σ ρ j b) := fun j b ⟨e, d, q⟩ => by
    rcases unl_at (ρ := ρ) (l := l) (j := j) with z | ⟨d', z0, z1, z2⟩
    · rw [z] at q; exact .inl ⟨e, d, q⟩
    · exact .inr ⟨z0, e, d', z1⟩
  have lkB : ∀ j b, LkAt σ (unl l ρ) j b → LkAt σ ρ j b := fun j b ⟨e, d, q⟩ => by
    rcases unl_at (ρ := ρ) (l := l) (j := j) with z | ⟨d', z0, z1, z2⟩
    · rw [z] at q; exact ⟨e, d, q⟩
    · rw [z2] at q; cases q
  refine ⟨⟨y.st.le, by rw [unl_len]; exact y.st.len, fun j s q => ?_, fun j k b h1 h2 => y.st.dj j k b (unl_hd h1) (unl_hd h2)⟩, y.fr, y.kp, y.nf, y.gr, fun j b q => ?_, fun j b q => y.lk j b (lkB j b q)⟩
  · rcases unl_at (ρ := ρ) (l := l) (j := j) with z | ⟨d', z0, z1, z2⟩
    · rw [z] at q; exact y.st.sl j s q
    · rw [z2] at q; cases q
      have w := y.st.sl j _ z1
      exact w
  · rcases owB j b q with z | ⟨hl, z⟩
    · exact y.ow j b z
    · -- it was locked through the loop
      obtain ⟨⟨a, ha⟩, hu'⟩ := hu j hl
      rcases x.lk j b z with w | w
      · have : LkAt σ₀ ρ₁ j b := by
          rcases w with ⟨_, d, w⟩ | w
          · obtain ⟨_, d', w'⟩ := ha
            rw [w] at w'; cases w'
          · exact w
        exact hu' b this
      · exact .inr (x0.back w)
theorem forGo_drop {g : DG} {body : DS} {ds : List D} {i : Nat} {d : D} (h : ds[i]? = some d) : forGo g body (ds.drop i) = forGo g body (d :: ds.drop (i + 1)) := by
  have hi := (List.getElem?_eq_some_iff.mp h).1
  rw [List.drop_eq_getElem_cons hi]
  have : ds[i] = d := (List.getElem?_eq_some_iff.mp h).2
  rw [this]
theorem sem_for {P : Nat → Prop} {w : M Wk} {g : DG} {body : DS} : ∀ D σ H, tSemS K P (dFor w g body) D σ H → tFor (tSemI K w) (tSemG K P g) (tSemS K P body) D σ H := fun D σ H ⟨F, ρ, s, h⟩ => by
  unfold dFor at h
  cases e : w ρ with
  | bad => rw [e] at h; exact h.elim
  | ok a ρ1 =>
    obtain ⟨ds, l⟩ := a
    rw [e] at h
    refine ⟨F, ρ, ds, l, ρ1, s, e, fun F1 H1 N J x1 hu sN hN it => ?_⟩
    simp only at h
    generalize hres : forGo g body ds ρ1 = res at h
    -- what the end asks
    have fin_nx : ∀ F' H' σ' ρ', res = .nx ρ' → Ext K F1 H1 σ ρ1 F' H' σ' ρ' → Prot P σ σ' → D.nx σ' H' := fun F' H' σ' ρ' er x p => by
      subst er
      exact h F' H' σ' (x1.unlock hu x) p
    have fin_rt : ∀ F' H' σ' ρ' r v, res = .rt r ρ' → Ext K F1 H1 σ ρ1 F' H' σ' ρ' → Prot P σ σ' → RsR K H F' H' σ' ρ' v r → D.rt v H' := fun F' H' σ' ρ' r v er x p q => by
      subst er
      refine h F' H' σ' v (x1.unlock hu x) p ?_
      cases r with
      | fz d => exact q
      | nm i => exact q
      | ow d =>
        obtain ⟨a, q1, q2, q3, q4, q5⟩ := q
        exact ⟨a, q1, q2, q3, q4, fun i z => q5 i (unl_hd z)⟩
    have fin_no : res = .bad → False := fun er => by subst er; exact h
    refine ⟨fun i m σ' H' => m = ds.length - i ∧ i ≤ ds.length ∧ ∃ F' ρ', Ext K F1 H1 σ ρ1 F' H' σ' ρ' ∧ Prot P σ σ' ∧ forGo g body (ds.drop i) ρ' = res, ⟨ds.length, by simp, Nat.zero_le _, F1, ρ1, Ext.refl x1.st, Prot.refl, by simpa using hres⟩, ?_⟩
    rintro i m σ' H' ⟨rfl, hi, F', ρ', x, p, er⟩
    have sN' : Same N H' := fun b o eb => x.kp b o (sN b o eb) (hN b (by rw [eb]; exact fun z => nomatch z))
    obtain ⟨itg, its⟩ := it i F' H' x.fr x.st.le sN'
    by_cases hlt : i < ds.length
    · have hd : ds[i]? = some ds[i] := List.getElem?_eq_getElem hlt
      obtain ⟨go, yl⟩ := itg _ hd
      rw [forGo_drop hd] at er
      refine .inr ⟨go, fun σ2 H2 => ∃ F2 ρ2, Ext K F1 H1 σ ρ1 F2 H2 σ2 ρ2 ∧ Prot P σ σ2 ∧ forGo g body (ds.drop (i + 1)) ρ2 = res, fun σ2 H2 q => ⟨ds.length - (i + 1), by omega, rfl, hlt, q⟩, fun v H2 y => ?_⟩
      obtain ⟨F2, gr, rp⟩ := yl v H2 y
      have x2 := x.trans (x.st.grow gr)
      unfold forGo at er
      cases eg : g ds[i] ρ' with
      | none => rw [eg] at er; exact (fin_no er.symm).elim
      | some ρ2 =>
        rw [eg] at er
        refine ⟨F2, ρ', ds[i], ρ2, x2.st, rp, eg, fun σ3 x3 p3 => ⟨F2, ρ2, x3.st, ?_⟩⟩
        have x4 := x2.trans x3
        have p4 := p.trans p3
        simp only at er
        cases eb : body ρ2 with
        | nx ρ5 => simp only [eb] at er; exact fun F5 H5 σ5 x5 p5 => ⟨F5, ρ5, x4.trans x5, p4.trans p5, er⟩
        | ct ρ5 => simp only [eb] at er; exact fun F5 H5 σ5 x5 p5 => ⟨F5, ρ5, x4.trans x5, p4.trans p5, er⟩
        | bk ρ5 => simp only [eb] at er; exact fun F5 H5 σ5 x5 p5 => fin_nx F5 H5 σ5 ρ5 er.symm (x4.trans x5) (p4.trans p5)
        | rt r ρ5 => simp only [eb] at er; exact fun F5 H5 σ5 v x5 p5 q => fin_rt F5 H5 σ5 ρ5 r v er.symm (x4.trans x5) (p4.trans p5) (q.base fun a z => x1.back (x4.back z))
        | bad => simp only [eb] at er; exact (fin_no er.symm).elim
    · have ei : i = ds.length := by omega
      subst ei
      rw [List.drop_length] at er
      exact .inl ⟨its rfl, fin_nx F' H' σ' ρ' er.symm x p⟩
/-! ### while -/
def whileGo (c : M Bool) (body : DS) : Nat → DS
  | 0 => fun _ => .bad
  | n + 1 => fun ρ => match c ρ with
    | .bad => .bad
    | .ok false ρ1 => .nx ρ1
    | .ok true ρ1 => match body ρ1 with
      | .nx ρ2 => whileGo c body n ρ2
      | .ct ρ2 => whileGo c body n ρ2
      | .bk ρ2 => .nx ρ2
      | .rt r ρ2 => .rt r ρ2
      | .bad => .bad
def dWhile (n : Nat) (c : M Bool) (body : DS) : DS := whileGo c body n
theorem sem_while {P : Nat → Prop} {n : Nat} {c : M Bool} {body : DS} : ∀ D σ H, tSemS K P (dWhile n c body) D σ H → tWhile (tSemT K c) (tSemS K P body) D σ H := fun D σ H ⟨F, ρ, s, h⟩ => by
  unfold dWhile at h
  generalize hres : whileGo c body n ρ = res at h
  refine ⟨fun m σ' H' => ∃ F' ρ', Ext K F H σ ρ F' H' σ' ρ' ∧ Prot P σ σ' ∧ whileGo c body m ρ' = res, ⟨n, F, ρ, Ext.refl s, Prot.refl, hres⟩, ?_⟩
  rintro m σ' H' ⟨F', ρ', x, p, er⟩
  cases m with
  | zero => unfold whileGo at er; subst er; exact h.elim
  | succ m =>
    unfold whileGo at er
    cases ec : c ρ' with
    | bad => rw [ec] at er; subst er; exact h.elim
    | ok b ρ1 =>
      rw [ec] at er
      refine ⟨F', ρ', b, ρ1, x.st, ec, fun F2 H2 x2 => ?_⟩
      cases b with
      | false => subst er; exact iteF (h F2 H2 σ' (x.trans x2) p)
      | true =>
        refine iteT ⟨fun σ3 H3 => ∃ F3 ρ3, Ext K F H σ ρ F3 H3 σ3 ρ3 ∧ Prot P σ σ3 ∧ whileGo c body m ρ3 = res, fun σ3 H3 q => ⟨m, Nat.lt_succ_self m, q⟩, F2, ρ1, x2.st, ?_⟩
        have x4 := x.trans x2
        simp only at er
        cases eb : body ρ1 with
        | nx ρ5 => simp only [eb] at er; exact fun F5 H5 σ5 x5 p5 => ⟨F5, ρ5, x4.trans x5, p.trans p5, er⟩
        | ct ρ5 => simp only [eb] at er; exact fun F5 H5 σ5 x5 p5 => ⟨F5, ρ5, x4.trans x5, p.trans p5, er⟩
        | bk ρ5 => simp only [eb] at er; subst er; exact fun F5 H5 σ5 x5 p5 => h F5 H5 σ5 (x4.trans x5) (p.trans p5)
        | rt r ρ5 => simp only [eb] at er; subst er; exact fun F5 H5 σ5 v x5 p5 q => h F5 H5 σ5 v (x4.trans x5) (p.trans p5) (q.base fun a z => x4.back z)
        | bad => simp only [eb] at er; subst er; exact h.elim
section
variable {X : Cx} {P : Nat → Prop} {pos : Pos} {f : DS} {w : M Wk} {g : DG} {tg iter : Expr} {body : List Stmt}
theorem sfor (hp : PassesOwn (model X.prog X.w) X.A X.env X.xe) (hc : X.calm = true) (hi : PI X tg iter (tSemI X.kw w)) (hg : PG X tg (tSemG X.kw P g)) (hb : PSs X body (tSemS X.kw P f))
    (hs : ∀ x, foldedSetIterable iter X.env x = pure x := by intro _; rfl) : PS X (.For tg iter body [] pos) (tSemS X.kw P (dFor w g f)) := psWeak (ps_for hp hc hi hg hb hs) sem_for
theorem swhile {n : Nat} {c : Expr} {tc : M Bool} (hp : PassesOwn (model X.prog X.w) X.A X.env X.xe) (hc : PT X c (tSemT X.kw tc)) (hb : PSs X body (tSemS X.kw P f)) : PS X (.While c body [] pos) (tSemS X.kw P (dWhile n tc f)) := psWeak (ps_while hp hc hb) sem_while
end
/-! ### ranges -/
def dRng1 (f : M (List Rs)) : M Wk := bd f fun rs => bd (lookA rs) fun ds => opt (match ds with
  | [.int j] => if -(2 ^ 62) ≤ j ∧ j < 2 ^ 62 then some ((List.range j.toNat).map fun k => .int (k : Nat), none) else none
  | _ => none)
def dRng2 (f : M (List Rs)) : M Wk := bd f fun rs => bd (lookA rs) fun ds => opt (match ds with
  | [.int i, .int j] => if -(2 ^ 62) ≤ i ∧ i < 2 ^ 62 ∧ -(2 ^ 62) ≤ j ∧ j < 2 ^ 62 then some ((List.range (j - i).toNat).map fun k => .int (i + (k : Nat)), none) else none
  | _ => none)
theorem itok_range {F0 N : Hp} {lo : Int} {n : Nat} : ItOk K F0 N (Itr lo n) ((List.range n).map fun k => .int (lo + (k : Nat))) := fun i F H s1 s2 s3 => by
  refine ⟨fun d hd => ?_, fun hi => by show n ≤ i; simp at hi; omega⟩
  rw [List.getElem?_map] at hd
  cases e : (List.range n)[i]? with
  | none => rw [e] at hd; cases hd
  | some c =>
    rw [e] at hd
    cases hd
    obtain ⟨h1, h2⟩ := List.getElem?_eq_some_iff.mp e
    have hi : i < n := by simpa using h1
    have : c = i := by simpa using h2.symm
    subst this
    refine ⟨hi, fun x H' y => ?_⟩
    obtain ⟨e1, e2⟩ := y
    subst e1; subst e2
    exact ⟨F, Grow.refl s2, .int _⟩
theorem VwA.one {v : List V} {d : D} (h : VwA K F H v [d]) : ∃ x, v = [x] ∧ Vw K F H x d := by
  match v, h with
  | [x], h => exact ⟨x, rfl, h.1⟩
theorem VwA.two {v : List V} {d e : D} (h : VwA K F H v [d, e]) : ∃ x y, v = [x, y] ∧ Vw K F H x d ∧ Vw K F H y e := by
  match v, h with
  | [x, y], h => exact ⟨x, y, rfl, h.1, h.2.1⟩
theorem sem_rng1 {f : M (List Rs)} : ∀ σ H R, tSemI K (dRng1 f) σ H R → iRng1 (tSemA K f) σ H R := fun σ H R ⟨F, ρ, ds, l, ρ', s, e, k⟩ => by
  obtain ⟨rs, ρ1, e1, e⟩ := bd_ok e
  obtain ⟨da, ρ2, e2, e⟩ := bd_ok e
  obtain ⟨e3, e4⟩ := opt_ok e
  subst e4
  refine ⟨F, ρ, rs, ρ1, s, e1, fun F1 H1 vs x1 q1 => ?_⟩
  obtain ⟨z, w⟩ := lookA_ok x1.st q1 e2
  subst z
  split at e3
  · rename_i j
    split at e3
    · rename_i hj
      cases e3
      obtain ⟨x, rfl, wx⟩ := w.one
      rw [wx.int]
      refine ⟨j, rfl, hj.1, hj.2, k F1 H1 F1 _ x1 unlNone x1.st.le (fun b nb i z => nb (x1.st.held (.inl z)).1) ?_⟩
      have := itok_range (K := K) (F0 := F1) (N := F1) (lo := 0) (n := j.toNat)
      simpa using this
    · cases e3
  · cases e3
section
variable {X : Cx} {tg : Expr}
theorem ir1 {a : Expr} {fa : M (List Rs)} {p pos : Pos} (hg : Gl X "range") (hm : X.mg "range" = none) (ha : PA X [a] (tSemA X.kw fa)) (hs : starEach [a] X.env = [(false, eval a X.env)] := by rfl) : PI X tg (.Call (.Name "range" p) [a] [] pos) (tSemI X.kw (dRng1 fa)) :=
  piWeak (pi_range1 hg hm ha hs) sem_rng1
end
end
end DL
namespace DL
open PySem PySem.Spec PyProof.Rows L2
section
variable {K : KW} {F H F' H' : Hp} {σ σ' : SS} {ρ ρ' : List Sl}
/-! ### list comprehensions -/
def wipeR (own : List Nat) (ρ : List Sl) : List Sl := match own with
  | [] => ρ
  | i :: is => (wipeR is ρ).set i .em
/-- the slots of own as they were in ρ -/
def restore (own : List Nat) (ρ ρ' : List Sl) : List Sl := match own with
  | [] => ρ'
  | i :: is => match ρ[i]? with
    | some s => (restore is ρ ρ').set i s
    | none => restore is ρ ρ'
theorem wipeR_len (ρ : List Sl) : ∀ own, (wipeR own ρ).length = ρ.length
  | [] => rfl
  | i :: is => by unfold wipeR; rw [List.length_set, wipeR_len ρ is]
theorem wipeR_in {i : Nat} (hi : i < ρ.length) : ∀ {own : List Nat}, i ∈ own → (wipeR own ρ)[i]? = some .em
  | [], h => by cases h
  | j :: js, h => by
    unfold wipeR
    by_cases hj : j = i
    · subst hj; rw [List.getElem?_set_self (by rw [wipeR_len]; exact hi)]
    · rw [List.getElem?_set_ne hj]
      exact wipeR_in hi ((List.mem_cons.mp h).resolve_left fun z => hj z.symm)
theorem wipeR_out {i : Nat} : ∀ {own : List Nat}, i ∉ own → (wipeR own ρ)[i]? = ρ[i]?
  | [], h => rfl
  | j :: js, h => by
    unfold wipeR
    have hj : j ≠ i := fun z => h (z ▸ List.mem_cons_self)
    rw [List.getElem?_set_ne hj]
    exact wipeR_out fun z => h (List.mem_cons_of_mem _ z)
theorem restore_len (hl : ρ'.length = ρ.length) : ∀ own, (restore own ρ ρ').length = ρ.length
  | [] => hl
  | i :: is => by
    unfold restore
    split
    · rw [List.length_set, restore_len hl is]
    · exact restore_len hl is
theorem restore_in {i : Nat} (hl : ρ'.length = ρ.length) (hi : i < ρ.length) : ∀ {own : List Nat}, i ∈ own → (restore own ρ ρ')[i]? = ρ[i]?
  | [], h => by cases h
  | j :: js, h => by
    unfold restore
    by_cases hj : j = i
    · subst hj
      rw [List.getElem?_eq_getElem hi]
      simp only
      rw [List.getElem?_set_self (by rw [restore_len hl]; exact hi)]
    · have := restore_in hl hi (own := js) ((List.mem_cons.mp h).resolve_left fun z => hj z.symm)
      split
      · rw [List.getElem?_set_ne hj]; exact this
      · exact this
theorem restore_out {i : Nat} : ∀ {own : List Nat}, i ∉ own → (restore own ρ ρ')[i]? = ρ'[i]?
  | [], h => rfl
  | j :: js, h => by
    unfold restore
    have hj : j ≠ i := fun z => h (z ▸ List.mem_cons_self)
    have := restore_out (own := js) fun z => h (List.mem_cons_of_mem _ z)
    split
    · rw [List.getElem?_set_ne hj]; exact this
    · exact this
theorem wipe_in {i : Nat} (hi : i < σ.length) : ∀ {own : List Nat}, i ∈ own → (wipe σ own)[i]? = some none
  | [], h => by cases h
  | j :: js, h => by
    unfold wipe
    by_cases hj : j = i
    · subst hj; rw [List.getElem?_set_self (by rw [wipe_length]; exact hi)]
    · rw [List.getElem?_set_ne hj]
      exact wipe_in hi ((List.mem_cons.mp h).resolve_left fun z => hj z.symm)
theorem wipe_out {i : Nat} : ∀ {own : List Nat}, i ∉ own → (wipe σ own)[i]? = σ[i]?
  | [], h => rfl
  | j :: js, h => by
    unfold wipe
    have hj : j ≠ i := fun z => h (z ▸ List.mem_cons_self)
    rw [List.getElem?_set_ne hj]
    exact wipe_out fun z => h (List.mem_cons_of_mem _ z)
theorem wipe_eq {own : List Nat} (hl : σ'.length = σ.length) (h : ∀ i, i ∉ own → σ'[i]? = σ[i]?) : wipe σ' own = wipe σ own := by
  refine List.ext_getElem? fun i => ?_
  by_cases hi : i ∈ own
  · by_cases hl' : i < σ.length
    · rw [wipe_in hl' hi, wipe_in (by omega) hi]
    · rw [List.getElem?_eq_none (by rw [wipe_length]; omega), List.getElem?_eq_none (by rw [wipe_length]; omega)]
  · rw [wipe_out hi, wipe_out hi, h i hi]
theorem wipe_wipe {own : List Nat} : wipe (wipe σ own) own = wipe σ own := wipe_eq (wipe_length _ _) fun i h => wipe_out h
section
variable {own : List Nat}
theorem wipe_hd (hl : σ.length = ρ.length) {σ1 : SS} (h1 : ∀ i, i ∉ own → σ1[i]? = σ[i]?) {i : Nat} {b : Addr} : HdAt σ1 (wipeR own ρ) i b → i ∉ own ∧ HdAt σ ρ i b := fun h => by
  have hno : i ∉ own := fun hi => by
    by_cases hi' : i < ρ.length
    · rcases h with ⟨_, d, q⟩ | ⟨_, d, q⟩ <;> rw [wipeR_in hi' hi] at q <;> cases q
    · rcases h with ⟨_, d, q⟩ | ⟨_, d, q⟩ <;> rw [List.getElem?_eq_none (by rw [wipeR_len]; omega)] at q <;> cases q
  refine ⟨hno, ?_⟩
  rcases h with ⟨e, d, q⟩ | ⟨e, d, q⟩
  · rw [wipeR_out hno] at q; rw [h1 i hno] at e; exact .inl ⟨e, d, q⟩
  · rw [wipeR_out hno] at q; rw [h1 i hno] at e; exact .inr ⟨e, d, q⟩
theorem wipe_ow (hl : σ.length = ρ.length) {σ1 : SS} (h1 : ∀ i, i ∉ own → σ1[i]? = σ[i]?) {i : Nat} {b : Addr} : OwAt σ1 (wipeR own ρ) i b → i ∉ own ∧ OwAt σ ρ i b := fun h => by
  obtain ⟨hno, _⟩ := wipe_hd hl h1 (.inl h)
  obtain ⟨e, d, q⟩ := h
  rw [wipeR_out hno] at q; rw [h1 i hno] at e
  exact ⟨hno, e, d, q⟩
theorem wipe_lk (hl : σ.length = ρ.length) {σ1 : SS} (h1 : ∀ i, i ∉ own → σ1[i]? = σ[i]?) {i : Nat} {b : Addr} : LkAt σ1 (wipeR own ρ) i b → i ∉ own ∧ LkAt σ ρ i b := fun h => by
  obtain ⟨hno, _⟩ := wipe_hd hl h1 (.inr h)
  obtain ⟨e, d, q⟩ := h
  rw [wipeR_out hno] at q; rw [h1 i hno] at e
  exact ⟨hno, e, d, q⟩
/-- the block's own names forgotten, the values of the others as they stand -/
theorem Sta.wiped (s : Sta K F H σ ρ) {σ1 : SS} (l1 : σ1.length = σ.length) (h1 : ∀ i, i ∉ own → σ1[i]? = σ[i]?) : Sta K F H σ1 (wipeR own ρ) := by
  refine ⟨s.le, by rw [wipeR_len, l1]; exact s.len, fun i sl q => ?_, fun i j b h2 h3 => s.dj i j b (wipe_hd s.len h1 h2).2 (wipe_hd s.len h1 h3).2⟩
  by_cases hi : i ∈ own
  · have hlt : i < ρ.length := by
      have := (List.getElem?_eq_some_iff.mp q).1
      rw [wipeR_len] at this; exact this
    rw [wipeR_in hlt hi] at q; cases q; trivial
  · rw [wipeR_out hi] at q
    rw [h1 i hi]; exact s.sl i sl q
theorem Ext.wiped {F₀ H₀ : Hp} {σ₀ : SS} {ρ₀ : List Sl} (x : Ext K F₀ H₀ σ₀ ρ₀ F H σ ρ) {σ1 : SS} (l1 : σ1.length = σ.length) (h1 : ∀ i, i ∉ own → σ1[i]? = σ[i]?) : Ext K F₀ H₀ σ₀ ρ₀ F H σ1 (wipeR own ρ) :=
  ⟨x.st.wiped l1 h1, x.fr, x.kp, x.nf, x.gr, fun i b q => x.ow i b (wipe_ow x.st.len h1 q).2, fun i b q => x.lk i b (wipe_lk x.st.len h1 q).2⟩
/-- behind the block: the names are what they were -/
theorem Ext.restored (s : Sta K F H σ ρ) {σ1 : SS} (l1 : σ1.length = σ.length) (h1 : ∀ i, i ∉ own → σ1[i]? = σ[i]?) (x : Ext K F H σ1 (wipeR own ρ) F' H' σ1 ρ') :
    Ext K F H σ ρ F' H' σ (restore own ρ ρ') ∧ ∀ i b, HdAt σ (restore own ρ ρ') i b → (i ∈ own ∧ HdAt σ ρ i b) ∨ (i ∉ own ∧ HdAt σ1 ρ' i b) := by
  have hl : ρ'.length = ρ.length := by
    have a := x.st.len
    have b := s.len
    omega
  -- a slot of the block's own names
  have inn : ∀ i sl, i ∈ own → (restore own ρ ρ')[i]? = some sl → ρ[i]? = some sl := fun i sl hi e => by
    have hlt : i < ρ.length := by
      have := (List.getElem?_eq_some_iff.mp e).1
      rw [restore_len hl] at this; exact this
    rw [restore_in hl hlt hi] at e; exact e
  have owR : ∀ i b, OwAt σ (restore own ρ ρ') i b → (i ∈ own ∧ OwAt σ ρ i b) ∨ (i ∉ own ∧ OwAt σ1 ρ' i b) := fun i b ⟨e, d, q⟩ => by
    by_cases hi : i ∈ own
    · exact .inl ⟨hi, e, d, inn i _ hi q⟩
    · rw [restore_out hi] at q
      exact .inr ⟨hi, by rw [h1 i hi]; exact e, d, q⟩
  have lkR : ∀ i b, LkAt σ (restore own ρ ρ') i b → (i ∈ own ∧ LkAt σ ρ i b) ∨ (i ∉ own ∧ LkAt σ1 ρ' i b) := fun i b ⟨e, d, q⟩ => by
    by_cases hi : i ∈ own
    · exact .inl ⟨hi, e, d, inn i _ hi q⟩
    · rw [restore_out hi] at q
      exact .inr ⟨hi, by rw [h1 i hi]; exact e, d, q⟩
  have hdR : ∀ i b, HdAt σ (restore own ρ ρ') i b → (i ∈ own ∧ HdAt σ ρ i b) ∨ (i ∉ own ∧ HdAt σ1 ρ' i b) := fun i b q => by
    rcases q with q | q
    · exact (owR i b q).imp (fun z => ⟨z.1, .inl z.2⟩) fun z => ⟨z.1, .inl z.2⟩
    · exact (lkR i b q).imp (fun z => ⟨z.1, .inr z.2⟩) fun z => ⟨z.1, .inr z.2⟩
  -- what a hidden name holds is apart from what the block holds
  have apart : ∀ i b, i ∈ own → HdAt σ ρ i b → ∀ j, ¬ HdAt σ1 (wipeR own ρ) j b := fun i b hi q j z => by
    obtain ⟨hj, z⟩ := wipe_hd s.len h1 z
    have e := s.dj i j b q z
    subst e
    exact hj hi
  refine ⟨⟨⟨x.st.le, by rw [restore_len hl]; exact s.len, fun i sl q => ?_, fun i j b q1 q2 => ?_⟩, x.fr, fun b o e n => x.kp b o e fun i z => n i (wipe_ow s.len h1 z).2, fun b e n q => x.nf b e (fun i z => n i (wipe_hd s.len h1 z).2) q, x.gr, fun i b q => ?_, fun i b q => ?_⟩, hdR⟩
  · by_cases hi : i ∈ own
    · have q' := inn i sl hi q
      have z := s.sl i sl q'
      cases sl with
      | em => trivial
      | fz d => obtain ⟨v, e, r⟩ := z; exact ⟨v, e, r.mono x.fr⟩
      | ow d =>
        obtain ⟨a, e, nf, o⟩ := z
        obtain ⟨ob, eo⟩ := o.some
        have ap := apart i a hi (.inl ⟨e, d, q'⟩)
        exact ⟨a, e, x.nf a o.ne ap nf, o.mono x.fr ((x.kp a ob eo fun j w => ap j (.inl w)).trans eo.symm)⟩
      | lk d =>
        obtain ⟨a, e, nf, o⟩ := z
        obtain ⟨ob, eo⟩ := o.some
        have ap := apart i a hi (.inr ⟨e, d, q'⟩)
        exact ⟨a, e, x.nf a o.ne ap nf, o.mono x.fr ((x.kp a ob eo fun j w => ap j (.inl w)).trans eo.symm)⟩
    · rw [restore_out hi] at q
      rw [← h1 i hi]; exact x.st.sl i sl q
  · have cross : ∀ i j b, i ∈ own → HdAt σ ρ i b → HdAt σ1 ρ' j b → False := fun i j b hi w1 w2 => by
      rcases x.hd w2 with y | y
      · exact apart i b hi w1 j y
      · obtain ⟨_, d, o⟩ := s.held w1
        exact o.ne y
    rcases hdR i b q1 with ⟨hi, w1⟩ | ⟨hi, w1⟩
    · rcases hdR j b q2 with ⟨hj, w2⟩ | ⟨hj, w2⟩
      · exact s.dj i j b w1 w2
      · exact (cross i j b hi w1 w2).elim
    · rcases hdR j b q2 with ⟨hj, w2⟩ | ⟨hj, w2⟩
      · exact (cross j i b hj w2 w1).elim
      · exact x.st.dj i j b w1 w2
  · rcases owR i b q with ⟨_, z⟩ | ⟨_, z⟩
    · exact .inl z
    · rcases x.ow i b z with y | y
      · exact .inl (wipe_ow s.len h1 y).2
      · exact .inr y
  · rcases lkR i b q with ⟨_, z⟩ | ⟨_, z⟩
    · exact .inl (.inr z)
    · rcases x.lk i b z with y | y
      · exact .inl (wipe_hd s.len h1 y).2
      · exact .inr y
end
/-- a new object of ours that no slot holds is changed -/
theorem Ext.updFree {F₀ H₀ : Hp} {σ₀ : SS} {ρ₀ : List Sl} {p : Addr} {o : HO} (x : Ext K F₀ H₀ σ₀ ρ₀ F H σ ρ) (h0 : H₀ p = none) (hf : F p = none) (hn : ∀ i, ¬ HdAt σ ρ i p) : Ext K F₀ H₀ σ₀ ρ₀ F (upd H p o) σ ρ := by
  refine ⟨⟨fun b u e => ?_, x.st.len, fun i s q => ?_, x.st.dj⟩, x.fr, fun b u e n => ?_, x.nf, fun b e => ?_, x.ow, x.lk⟩
  · have hb : b ≠ p := fun z => by subst z; rw [hf] at e; cases e
    rw [upd_ne hb]; exact x.st.le b u e
  · have z := x.st.sl i s q
    cases s with
    | em => trivial
    | fz d => exact z
    | ow d =>
      obtain ⟨a, e, nf, ob⟩ := z
      have ha : a ≠ p := fun z => by subst z; exact hn i (.inl ⟨e, d, q⟩)
      exact ⟨a, e, nf, ob.mono (Same.refl _) (upd_ne ha)⟩
    | lk d =>
      obtain ⟨a, e, nf, ob⟩ := z
      have ha : a ≠ p := fun z => by subst z; exact hn i (.inr ⟨e, d, q⟩)
      exact ⟨a, e, nf, ob.mono (Same.refl _) (upd_ne ha)⟩
  · have hb : b ≠ p := fun z => by subst z; rw [h0] at e; cases e
    rw [upd_ne hb]; exact x.kp b u e n
  · by_cases hb : b = p
    · subst hb; rw [upd_same]; exact fun z => nomatch z
    · rw [upd_ne hb]; exact x.gr b e
def lcGo (own : List Nat) (g : DG) (tt : M Bool) (te : M Rs) : List D → List D → M (List D)
  | [], acc => pr acc
  | d :: ds, acc => fun ρ => match g d ρ with
    | none => .bad
    | some ρ1 => match tt ρ1 with
      | .bad => .bad
      | .ok false ρ2 => lcGo own g tt te ds acc (wipeR own ρ2)
      | .ok true ρ2 => match bd te frz ρ2 with
        | .bad => .bad
        | .ok x ρ3 => lcGo own g tt te ds (acc ++ [x]) (wipeR own ρ3)
/-- what a comprehension walks -/
def dLc (own : List Nat) (w : M Wk) (g : DG) (tt : M Bool) (te : M Rs) : M Rs := fun ρ => match w ρ with
  | .bad => .bad
  | .ok (ds, l) ρ1 => if ds.length ≤ sizeLine then match lcGo own g tt te ds [] (wipeR own ρ1) with
    | .bad => .bad
    | .ok acc ρ2 => .ok (.ow (.list acc)) (unl l (restore own ρ1 ρ2))
    else .bad
theorem lcGo_drop {own : List Nat} {g : DG} {tt : M Bool} {te : M Rs} {ds : List D} {i : Nat} {d : D} (h : ds[i]? = some d) (acc : List D) : lcGo own g tt te (ds.drop i) acc = lcGo own g tt te (d :: ds.drop (i + 1)) acc := by
  have hi := (List.getElem?_eq_some_iff.mp h).1
  rw [List.drop_eq_getElem_cons hi]
  have : ds[i] = d := (List.getElem?_eq_some_iff.mp h).2
  rw [this]
theorem sem_lc {own : List Nat} {w : M Wk} {g : DG} {tt : M Bool} {te : M Rs} : ∀ σ H Q, tSem K (dLc own w g tt te) σ H Q → tLc (tSemI K w) (tSemG K (fun i => i ∉ own) g) (tSemT K tt) (tSem K te) own σ H Q := fun σ H Q ⟨F, ρ, r, ρ', s, e, k⟩ => by
  unfold dLc at e
  cases ew : w ρ with
  | bad => rw [ew] at e; cases e
  | ok a ρ1 =>
    obtain ⟨ds, l⟩ := a
    rw [ew] at e
    simp only at e
    split at e
    case isFalse => cases e
    case isTrue hsz =>
    cases eg : lcGo own g tt te ds [] (wipeR own ρ1) with
    | bad => rw [eg] at e; cases e
    | ok acc ρ2 =>
      rw [eg] at e
      cases e
      refine ⟨F, ρ, ds, l, ρ1, s, ew, fun F1 H1 N J x1 hu sN hN it p hp => ?_⟩
      have lw : (wipe σ own).length = σ.length := wipe_length _ _
      have hw : ∀ i, i ∉ own → (wipe σ own)[i]? = σ[i]? := fun i h => wipe_out h
      have st0 : Sta K F1 H1 (wipe σ own) (wipeR own ρ1) := x1.st.wiped lw hw
      have n0 : ∀ i, ¬ HdAt (wipe σ own) (wipeR own ρ1) i p := fun i z => by
        obtain ⟨_, d, o⟩ := st0.held z
        exact o.ne hp
      have fp : F1 p = none := x1.st.le.free hp
      refine ⟨fun i m H' => m = ds.length - i ∧ i ≤ ds.length ∧ ∃ F' ρ' acc' vs, Ext K F1 H1 (wipe σ own) (wipeR own ρ1) F' H' (wipe σ own) ρ' ∧ (∀ j, ¬ HdAt (wipe σ own) ρ' j p) ∧ F' p = none ∧ H' p = some (.lst vs) ∧ RpA K F' vs acc' ∧ acc'.length ≤ i ∧
        lcGo own g tt te (ds.drop i) acc' ρ' = .ok acc ρ2, ⟨ds.length, by simp, Nat.zero_le _, F1, _, [], [], (Ext.refl st0).updFree hp fp n0, n0, fp, upd_same, .nil, Nat.le_refl _, by simpa using eg⟩, ?_⟩
      rintro i m H' ⟨rfl, hi, F', ρ', acc', vs, x, hn, hf, ho, ra, hla, el⟩
      have sN' : Same N H' := fun b o eb => x.kp b o (sN b o eb) fun j z => by
        have := wipe_ow x1.st.len hw z
        exact hN b (by rw [eb]; exact fun z => nomatch z) j this.2
      obtain ⟨itg, its⟩ := it i F' H' x.fr x.st.le sN'
      by_cases hlt : i < ds.length
      · have hd : ds[i]? = some ds[i] := List.getElem?_eq_getElem hlt
        obtain ⟨go, yl⟩ := itg _ hd
        rw [lcGo_drop hd] at el
        refine .inr ⟨go, fun H2 => ∃ F' ρ' acc' vs, Ext K F1 H1 (wipe σ own) (wipeR own ρ1) F' H2 (wipe σ own) ρ' ∧ (∀ j, ¬ HdAt (wipe σ own) ρ' j p) ∧ F' p = none ∧ H2 p = some (.lst vs) ∧ RpA K F' vs acc' ∧ acc'.length ≤ i + 1 ∧
          lcGo own g tt te (ds.drop (i + 1)) acc' ρ' = .ok acc ρ2, fun H2 q => ⟨ds.length - (i + 1), by omega, rfl, hlt, q⟩, fun v H2 y => ?_⟩
        obtain ⟨F2, gr, rp⟩ := yl v H2 y
        have y2 := x.st.grow gr
        have x2 := x.trans y2
        -- the list at p stands through what reads
        have hp' : H' p ≠ none := by rw [ho]; exact fun z => nomatch z
        unfold lcGo at el
        cases egd : g ds[i] ρ' with
        | none => rw [egd] at el; cases el
        | some ρ3 =>
          rw [egd] at el
          simp only at el
          refine ⟨F2, ρ', ds[i], ρ3, x2.st, rp, egd, fun σ3 x3 p3 => ?_⟩
          have l3 : σ3.length = (wipe σ own).length := p3.1
          have hw3 : ∀ i, i ∉ own → σ3[i]? = (wipe σ own)[i]? := fun i h => p3.2 i h
          refine ⟨by rw [wipe_eq l3 hw3, wipe_wipe], ?_⟩
          -- what holds of p behind any of these
          have atp : ∀ {F5 H5 : Hp} {ρ5 : List Sl}, Ext K F' H' (wipe σ own) ρ' F5 H5 σ3 ρ5 → H5 p = some (.lst vs) ∧ F5 p = none ∧ ∀ j, ¬ HdAt σ3 ρ5 j p := fun {F5 H5 ρ5} y => by
            refine ⟨y.kp p _ ho fun j z => hn j (.inl z), y.nf p hp' hn hf, fun j z => ?_⟩
            rcases y.hd z with w | w
            · exact hn j w
            · exact hp' w
          have back3 : ∀ {F5 H5 : Hp} {ρ5 : List Sl}, Sta K F5 H5 σ3 ρ5 → (∀ j, ¬ HdAt σ3 ρ5 j p) → ∀ j, ¬ HdAt (wipe σ own) (wipeR own ρ5) j p := fun {F5 H5 ρ5} st h j z => h j (wipe_hd st.len (fun i h => (hw3 i h).symm) z).2
          cases et : tt ρ3 with
          | bad => simp only [et] at el; cases el
          | ok b ρ4 =>
            simp only [et] at el
            refine ⟨F2, ρ3, b, ρ4, x3.st, et, fun F4 H4 x4 => ?_⟩
            have y4 := (y2.trans x3).trans x4
            cases b with
            | false =>
              simp only at el
              obtain ⟨a1, a2, a3⟩ := atp y4
              exact iteF ⟨F4, _, acc', vs, (x.trans y4).wiped l3.symm fun i h => (hw3 i h).symm, back3 y4.st a3, a2, a1, ra.mono y4.fr, by omega, el⟩
            | true =>
              simp only at el
              cases ee : bd te frz ρ4 with
              | bad => rw [ee] at el; cases el
              | ok z ρ5 =>
                rw [ee] at el
                simp only at el
                obtain ⟨r, ρ6, e1, e2⟩ := bd_ok ee
                refine iteT ⟨F4, ρ4, r, ρ6, x4.st, e1, fun F5 H5 u x5 q5 => ?_⟩
                obtain ⟨F6, y6, rz⟩ := frz_ok (y4.trans x5) (q5.base fun a z => y4.back z) e2
                obtain ⟨a1, a2, a3⟩ := atp y6
                refine ⟨vs, a1, ?_, F6, _, acc' ++ [z], vs ++ [u], ((x.trans y6).updFree hp a2 a3).wiped l3.symm fun i h => (hw3 i h).symm, back3 y6.st a3, a2, upd_same, (ra.mono y6.fr).app (.one rz), ?_, el⟩
                · rw [ra.length]; omega
                · rw [List.length_append, List.length_singleton]; omega
      · have ei : i = ds.length := by omega
        subst ei
        rw [List.drop_length] at el
        obtain ⟨e1, e2⟩ := pr_ok el
        subst e1; subst e2
        obtain ⟨x5, hd5⟩ := Ext.restored x1.st lw hw x
        refine .inl ⟨its rfl, k F' H' (.ref p) (x1.unlock hu x5) ⟨p, rfl, x1.back hp, hf, ⟨vs, ho, ra⟩, fun j z => ?_⟩⟩
        rcases hd5 j p (unl_hd z) with ⟨_, w⟩ | ⟨_, w⟩
        · obtain ⟨_, d, o⟩ := x1.st.held w
          exact o.ne hp
        · exact hn j w
def dYes : M Bool := pr true
theorem sem_yes : ∀ σ H Q, tSemT K dYes σ H Q → tYes σ H Q := fun σ H Q ⟨F, ρ, r, ρ', s, e, k⟩ => by
  cases e; exact k F H (Ext.refl s)
theorem ptsWeak {X : Cx} {e : List Expr} {t t' : TT} (h : PTs X e t) (w : ∀ σ H Q, t' σ H Q → t σ H Q) : PTs X e t' :=
  ⟨fun pins s σ H Q I q => h.run pins s σ H Q I (w σ H Q q)⟩
section
variable {X : Cx} {c : Expr} {tc : M Bool}
theorem tn : PTs X [] (tSemT X.kw dYes) := ptsWeak pts_nil sem_yes
theorem t1 (h : PT X c (tSemT X.kw tc)) : PTs X [c] (tSemT X.kw tc) := pts_one h
theorem lc {elt tg iter : Expr} {ifs : List Expr} {scope : Scope} {own : List (Str × Nat)} {pos : Pos} {w : M Wk} {g : DG} {tt : M Bool} {te : M Rs} (hc : X.calm = true) (hN : X.N.Nodup) (hi : PI X tg iter (tSemI X.kw w)) (ok : BlkOk X.N X.env.scope scope own)
    (hg : ∀ (s : Shared) (H : Hp) (C : Addr) (cl : List (Str × Addr)) (fp : List Addr), PG (X.blk s H scope (compEnvC scope cl C X.env) fp) tg (tSemG X.kw (fun i => i ∉ own.map (·.2)) g))
    (ht : ∀ (s : Shared) (H : Hp) (C : Addr) (cl : List (Str × Addr)) (fp : List Addr), PTs (X.blk s H scope (compEnvC scope cl C X.env) fp) ifs (tSemT X.kw tt))
    (he : ∀ (s : Shared) (H : Hp) (C : Addr) (cl : List (Str × Addr)) (fp : List Addr), PE (X.blk s H scope (compEnvC scope cl C X.env) fp) elt (tSem X.kw te)) (hs : ∀ x, foldedSetIterable iter X.env x = pure x := by intro _; rfl) :
    PE X (.ListComp elt [⟨tg, iter, ifs, 0⟩] scope pos) (tSem X.kw (dLc (own.map (·.2)) w g tt te)) := peWeak (pe_lc hc hN hi ok hg ht he hs) sem_lc
theorem slc {P : Nat → Prop} {i : Nat} {y : Str} {py : Pos} {elt tg iter : Expr} {ifs : List Expr} {scope : Scope} {own : List (Str × Nat)} {pos spos : Pos} {w : M Wk} {g : DG} {tt : M Bool} {te : M Rs} (hP : ¬ P i) (hc : X.calm = true) (hN : X.N.Nodup) (hy : X.N[i]? = some y) (hyl : X.env.scope.names.lookup y = some .local)
    (hsw : swapsWith (.ListComp elt [⟨tg, iter, ifs, 0⟩] scope pos) (some (.Name y py)) spos.line X.env = pure true) (hi : PI X tg iter (tSemI X.kw w)) (ok : BlkOk X.N X.env.scope scope own)
    (hg : ∀ (s : Shared) (H : Hp) (C : Addr) (cl : List (Str × Addr)) (fp : List Addr), PG (X.blk s H scope (compEnvC scope cl C X.env) fp) tg (tSemG X.kw (fun i => i ∉ own.map (·.2)) g))
    (ht : ∀ (s : Shared) (H : Hp) (C : Addr) (cl : List (Str × Addr)) (fp : List Addr), PTs (X.blk s H scope (compEnvC scope cl C X.env) fp) ifs (tSemT X.kw tt))
    (he : ∀ (s : Shared) (H : Hp) (C : Addr) (cl : List (Str × Addr)) (fp : List Addr), PE (X.blk s H scope (compEnvC scope cl C X.env) fp) elt (tSem X.kw te)) (hs : ∀ x, foldedSetIterable iter X.env x = pure x := by intro _; rfl) :
    PS X (.Assign [.Name y py] (.ListComp elt [⟨tg, iter, ifs, 0⟩] scope pos) spos) (tSemS X.kw P (dSet i (dLc (own.map (·.2)) w g tt te))) := by
  refine psWeak (ps_setLc hc hN hy hyl hsw hi ok hg ht he hs) fun D σ H h => ?_
  exact sem_lc σ H _ (sem_set hP D σ H h)
end
end
end DL
namespace DL
open PySem PySem.Spec PyProof.Rows L2
section
variable {K : KW} {F H F' H' : Hp} {σ σ' : SS} {ρ ρ' : List Sl}
/-! ### defs -/
/-- the parameters' slots at the end: those that may be lent as they stand, of the others nothing is told -/
def outP : List Bool → List Sl → List Sl
  | true :: bs, s :: ss => s :: outP bs ss
  | false :: bs, _ :: ss => .em :: outP bs ss
  | _, _ => []
/-- a def with N slots, the parameters first; ms: which of them are never stored to -/
def runDef (ms : List Bool) (n : Nat) (body : DS) : M Rs := fun args => match body (args ++ List.replicate (n - args.length) .em) with
  | .nx ρ => .ok (.fz .none) (outP ms ρ)
  | .rt (.fz d) ρ => .ok (.fz d) (outP ms ρ)
  | .rt (.ow d) ρ => .ok (.ow d) (outP ms ρ)
  | .rt (.nm i) ρ => match ρ[i]? with
    | some (.fz d) => .ok (.fz d) (outP ms ρ)
    | some (.ow d) => if ms.length ≤ i then .ok (.ow d) (outP ms ρ) else .ok (.fz d) (outP ms (ρ.set i (.fz d)))
    | some (.lk d) => .ok (.fz d) (outP ms (ρ.set i (.fz d)))
    | _ => .bad
  | _ => .bad
theorem outP_len : ∀ {ms : List Bool} {ρ : List Sl}, ms.length ≤ ρ.length → (outP ms ρ).length = ms.length
  | [], _, _ => by unfold outP; simp
  | true :: ms, [], h => by simp at h
  | false :: ms, [], h => by simp at h
  | true :: ms, s :: ρ, h => by unfold outP; rw [List.length_cons, List.length_cons, outP_len (by simpa using h)]
  | false :: ms, s :: ρ, h => by unfold outP; rw [List.length_cons, List.length_cons, outP_len (by simpa using h)]
theorem outP_get : ∀ {ms : List Bool} {ρ : List Sl} {i : Nat} {s : Sl}, (outP ms ρ)[i]? = some s → s = .em ∨ (ms[i]? = some true ∧ ρ[i]? = some s)
  | [], _, _, _, h => by unfold outP at h; simp at h
  | true :: ms, [], _, _, h => by unfold outP at h; simp at h
  | false :: ms, [], _, _, h => by unfold outP at h; simp at h
  | true :: ms, s :: ρ, 0, _, h => by unfold outP at h; simp at h; exact .inr ⟨rfl, by simpa using h⟩
  | false :: ms, s :: ρ, 0, _, h => by unfold outP at h; simp at h; exact .inl h.symm
  | true :: ms, s :: ρ, i + 1, _, h => by unfold outP at h; simp at h; exact (outP_get h).imp id fun z => ⟨by simpa using z.1, by simpa using z.2⟩
  | false :: ms, s :: ρ, i + 1, _, h => by unfold outP at h; simp at h; exact (outP_get h).imp id fun z => ⟨by simpa using z.1, by simpa using z.2⟩
theorem start_at {N : List Str} {vs : List V} (i : Nat) (hi : i < vs.length) : (start N vs)[i]? = (vs.map some)[i]? := by
  unfold L2.start
  rw [List.getElem?_append_left (by simpa using hi)]
theorem start_out {N : List Str} {vs : List V} {i : Nat} {v : V} (h : (start N vs)[i]? = some (some v)) : i < vs.length := by
  unfold L2.start at h
  rcases Nat.lt_or_ge i vs.length with z | z
  · exact z
  · rw [List.getElem?_append_right (by simpa using z), List.getElem?_replicate] at h
    split at h <;> cases h
section
variable {vs : List V} {N : List Str} {args : List Sl}
theorem start_hd (hl : vs.length = args.length) {k : Nat} {i : Nat} {b : Addr} : HdAt (start N vs) (args ++ List.replicate k .em) i b → HdAt (vs.map some) args i b := fun h => by
  have hi : i < vs.length := by rcases h with ⟨e, _⟩ | ⟨e, _⟩ <;> exact start_out e
  rcases h with ⟨e, d, q⟩ | ⟨e, d, q⟩
  · rw [start_at i hi] at e
    rw [List.getElem?_append_left (by omega)] at q
    exact .inl ⟨e, d, q⟩
  · rw [start_at i hi] at e
    rw [List.getElem?_append_left (by omega)] at q
    exact .inr ⟨e, d, q⟩
theorem start_ow (hl : vs.length = args.length) {k : Nat} {i : Nat} {b : Addr} : OwAt (start N vs) (args ++ List.replicate k .em) i b → OwAt (vs.map some) args i b := fun ⟨e, d, q⟩ => by
  have hi : i < vs.length := start_out e
  rw [start_at i hi] at e
  rw [List.getElem?_append_left (by omega)] at q
  exact ⟨e, d, q⟩
theorem start_sta (s : Sta K F H (vs.map some) args) (hn : vs.length ≤ N.length) : Sta K F H (start N vs) (args ++ List.replicate (N.length - args.length) .em) := by
  have hl : vs.length = args.length := by simpa using s.len
  refine ⟨s.le, by unfold L2.start; simp; omega, fun i sl q => ?_, fun i j b h1 h2 => s.dj i j b (start_hd hl h1) (start_hd hl h2)⟩
  rcases Nat.lt_or_ge i args.length with z | z
  · rw [List.getElem?_append_left z] at q
    rw [start_at i (by omega)]; exact s.sl i sl q
  · rw [List.getElem?_append_right z, List.getElem?_replicate] at q
    split at q
    · cases q; trivial
    · cases q
/-- behind a def's body: what the caller sees -/
theorem out_ext {ms : List Bool} (s : Sta K F H (vs.map some) args) (hn : vs.length ≤ N.length) (hm : ms.length = vs.length)
    (x : Ext K F H (start N vs) (args ++ List.replicate (N.length - args.length) .em) F' H' σ' ρ') (p : Prot (fun i => ms[i]? = some true) (start N vs) σ') :
    Ext K F H (vs.map some) args F' H' (vs.map some) (outP ms ρ') ∧ ∀ i b, HdAt (vs.map some) (outP ms ρ') i b → i < vs.length ∧ HdAt σ' ρ' i b := by
  have hl : vs.length = args.length := by simpa using s.len
  have hls : (start N vs).length = N.length := by unfold L2.start; simp; omega
  have hlr : ρ'.length = N.length := by rw [← x.st.len, p.1, hls]
  have same : ∀ i, ms[i]? = some true → σ'[i]? = (vs.map some)[i]? := fun i hi => by
    have hi' : i < vs.length := by rw [← hm]; exact (List.getElem?_eq_some_iff.mp hi).1
    rw [p.2 i hi, start_at i hi']
  have hd : ∀ i b, HdAt (vs.map some) (outP ms ρ') i b → i < vs.length ∧ HdAt σ' ρ' i b := fun i b h => by
    rcases h with ⟨e, d, q⟩ | ⟨e, d, q⟩
    · rcases outP_get q with z | ⟨z1, z2⟩
      · cases z
      · exact ⟨by rw [← hm]; exact (List.getElem?_eq_some_iff.mp z1).1, .inl ⟨by rw [same i z1]; exact e, d, z2⟩⟩
    · rcases outP_get q with z | ⟨z1, z2⟩
      · cases z
      · exact ⟨by rw [← hm]; exact (List.getElem?_eq_some_iff.mp z1).1, .inr ⟨by rw [same i z1]; exact e, d, z2⟩⟩
  refine ⟨⟨⟨x.st.le, by rw [outP_len (by omega), List.length_map, hm], fun i sl q => ?_, fun i j b h1 h2 => x.st.dj i j b (hd i b h1).2 (hd j b h2).2⟩, x.fr, fun b o e n => x.kp b o e fun i z => n i (start_ow hl z),
    fun b e n q => x.nf b e (fun i z => n i (start_hd hl z)) q, x.gr, fun i b q => ?_, fun i b q => ?_⟩, hd⟩
  · rcases outP_get q with z | ⟨z1, z2⟩
    · rw [z]; trivial
    · rw [← same i z1]; exact x.st.sl i sl z2
  · obtain ⟨e, d, q⟩ := q
    rcases outP_get q with z | ⟨z1, z2⟩
    · cases z
    · exact (x.ow i b ⟨by rw [same i z1]; exact e, d, z2⟩).imp (start_ow hl) id
  · obtain ⟨e, d, q⟩ := q
    rcases outP_get q with z | ⟨z1, z2⟩
    · cases z
    · exact (x.lk i b ⟨by rw [same i z1]; exact e, d, z2⟩).imp (start_hd hl) id
end
/-- a def's body keeps the def's promise -/
theorem sem_def {ms : List Bool} {N : List Str} {body : DS} {vs : List V} {Q : VK} (hn : vs.length ≤ N.length) (hm : ms.length = vs.length) (h : tSem K (runDef ms N.length body) (vs.map some) H Q) :
    tSemS K (fun i => ms[i]? = some true) body { nx := fun _ H' => Q .non H', rt := Q } (start N vs) H := by
  obtain ⟨F, args, r, ρ', s, e, k⟩ := h
  have hl : vs.length = args.length := by simpa using s.len
  have s0 := start_sta (N := N) s hn
  refine ⟨F, _, s0, ?_⟩
  unfold runDef at e
  cases eb : body (args ++ List.replicate (N.length - args.length) .em) with
  | nx ρ1 =>
    rw [eb] at e; cases e
    exact fun F' H' σ' x p => k F' H' .non (out_ext s hn hm x p).1 .non
  | bk ρ1 => rw [eb] at e; cases e
  | ct ρ1 => rw [eb] at e; cases e
  | bad => rw [eb] at e; cases e
  | rt r1 ρ1 =>
    rw [eb] at e
    intro F' H' σ' v x p q
    obtain ⟨x1, hd1⟩ := out_ext s hn hm x p
    cases r1 with
    | fz d => cases e; exact k F' H' v x1 q
    | ow d =>
      cases e
      obtain ⟨a, q1, q2, q3, q4, q5⟩ := q
      exact k F' H' v x1 ⟨a, q1, q2, q3, q4, fun i z => q5 i (hd1 i a z).2⟩
    | nm i =>
      have q : σ'[i]? = some (some v) := q
      simp only at e
      cases q1 : ρ1[i]? with
      | none => rw [q1] at e; cases e
      | some sl =>
        rw [q1] at e
        have z := x.st.sl i sl q1
        rw [q] at z
        cases sl with
        | em => cases e
        | fz d =>
          cases e
          obtain ⟨w, w1, w2⟩ := z
          cases w1
          exact k F' H' v x1 w2
        | ow d =>
          obtain ⟨a, w1, w2, w3⟩ := z
          cases w1
          simp only at e
          split at e
          · rename_i hi
            cases e
            refine k F' H' _ x1 ⟨a, rfl, ?_, w2, w3, fun j z => ?_⟩
            · rcases x.ow i a ⟨q, d, q1⟩ with y | y
              · have := start_out y.1
                omega
              · exact y
            · obtain ⟨z1, z2⟩ := hd1 j a z
              have := x.st.dj i j a (.inl ⟨q, d, q1⟩) z2
              omega
          · cases e
            obtain ⟨F2, x2, rp⟩ := x.freeze q q1 (.inl rfl)
            exact k F2 H' _ (out_ext s hn hm x2 p).1 rp
        | lk d =>
          obtain ⟨a, w1, w2, w3⟩ := z
          cases w1
          cases e
          obtain ⟨F2, x2, rp⟩ := x.freeze q q1 (.inr rfl)
          exact k F2 H' _ (out_ext s hn hm x2 p).1 rp
end
section
variable {P : Program} {w : World} {K : KW} {mg : Str → Option Value} {base : Heap}
/-- THE RULE for a def -/
theorem fun_ok {x qual : Str} {st : Stmt} {f : Addr} {fd : FuncData} {N ps : List Str} {k : Nat} {ms : List Bool} {body : DS} (F : Fun K x qual st f fd) (S : FnScope N ps (defScope st)) (hm : ms.length = ps.length)
    (hbody : ∀ (cdv : Value) (A : Around) (outer : List Env) (s : Shared) (H : Hp) (E : XK), Room k (A.deeper (envOfC qual (defScope st) s.heap.objs.size f cdv)) →
      PSs (cxOf CX0 P w K mg base N qual (defScope st) f cdv A outer s H E).nox (defBody st) (tSemS K (fun i => ms[i]? = some true) body)) :
    FnOk P w K mg base CX0 (k + 1) f fd ps (spD K ps.length (runDef ms N.length body)) := by
  have hpn : ps.length ≤ N.length := by
    have := congrArg List.length S.pre
    rw [List.length_take] at this
    omega
  refine F.ok S (fun vs H Q E h => h.1) fun cdv A outer s H vs Q E hr h => ?_
  exact ⟨_, hbody cdv A outer s H E hr, sem_def (by rw [h.1]; exact hpn) (by rw [hm, h.1]) h.2⟩
/-- f(..) -/
theorem ecall {X : Cx} {k : Nat} {f : Addr} {fd : FuncData} {ps : List Str} {sem : M Rs} {n : Nat} {x : Str} {p pos : Pos} {e : Expr} {es : List Expr} {fa : M (List Rs)} {ls : List Bool} (G : FnOk X.prog X.w X.kw X.mg X.base CX0 k f fd ps (spD X.kw n sem)) (hr : Room k X.A) (hg : Gl X x) (hm : X.mg x = some (.ref f)) (hk : PySem.W.keepIn X.kw (.ref f) = true)
    (hb : Binds X.kw fd ps []) (hn : ls.length = n) (ha : PA X (e :: es) (tSemA X.kw fa)) (hdb : (x == ("__debug__" : Str)) = false := by decide) (he : starEach (e :: es) X.env = (false, eval e X.env) :: starEach es X.env := by rfl) (hpl : (backTo pos (starEach es X.env)).any (·.1) = false := by rfl) :
    PE X (.Call (.Name x p) (e :: es) [] pos) (tSem X.kw (dCall ls sem fa)) := peWeak (pe_call G hr hg hm hk hb .nil pass0 ha hdb he hpl) (sem_call hn)
end
end DL
namespace DL
open PySem PySem.Spec PyProof.Rows L2
/-! ### operations of values, by functions of data -/
def rG (K : KW) (g : G2) : R2 := fun x y H Q => ∃ F dx dy res, Same F H ∧ Vw K F H x dx ∧ Vw K F H y dy ∧ g dx dy = some res ∧ NewR K F H res Q
def rG1 (K : KW) (g : D → Option Rs) : V → Hp → VK → Prop := fun x H Q => ∃ F dx res, Same F H ∧ Vw K F H x dx ∧ g dx = some res ∧ NewR K F H res Q
def rGN (K : KW) (g : List D → Option Rs) : List V → Hp → VK → Prop := fun x H Q => ∃ F dx res, Same F H ∧ VwA K F H x dx ∧ g dx = some res ∧ NewR K F H res Q
theorem op2G {K : KW} {g : G2} : Op2 K (rG K g) g := fun F _ _ _ dx dy res _ s h1 h2 e q => ⟨F, dx, dy, res, s, h1, h2, e, q⟩
theorem op1G {K : KW} {g : D → Option Rs} : Op1 K (rG1 K g) g := fun F _ _ dx res _ s h1 e q => ⟨F, dx, res, s, h1, e, q⟩
theorem opNG {K : KW} {g : List D → Option Rs} : OpN K (rGN K g) g := fun F _ _ dx res _ s h1 e q => ⟨F, dx, res, s, h1, e, q⟩
section
variable {X : Cx} {a b c : Expr} {fa fb fc : M Rs} {pos : Pos}
theorem e2 {op : Operator} {g : G2} (ho : OpR X (binaryOp op) (rG X.kw g)) (ha : PE X a (tSem X.kw fa)) (hb : PE X b (tSem X.kw fb)) : PE X (.BinOp a op b pos) (tSem X.kw (dOp2 g fa fb)) := peWeak (pe_op ho ha hb) (sem_op2 op2G)
theorem e1 {op : UnaryOp} {g : D → Option Rs} (ho : UnR X (unaryOp op) (rG1 X.kw g)) (ha : PE X a (tSem X.kw fa)) : PE X (.UnaryOp op a pos) (tSem X.kw (dOp1 g fa)) := peWeak (pe_un ho ha) (sem_op1 op1G)
abbrev gB (g : D → D → Option Bool) : G2 := fun a b => (g a b).map fun k => .fz (.bool k)
/-- a comparison as a value, as a test -/
theorem ecmp {op : CmpOp} {g : D → D → Option Bool} (ho : OpR X (compareOp op) (rG X.kw (gB g))) (ha : PE X a (tSem X.kw fa)) (hb : PE X b (tSem X.kw fb)) (hm : behindInMarks op b = false := by first | exact nomark _ | rfl) : PE X (.Compare a [op] [b] pos) (tSem X.kw (dOp2 (gB g) fa fb)) := peWeak (pe_cmpR ho ha hb hm) (sem_op2 op2G)
theorem tcmp {op : CmpOp} {g : D → D → Option Bool} (ho : OpR X (compareOp op) (rG X.kw (gB g))) (ha : PE X a (tSem X.kw fa)) (hb : PE X b (tSem X.kw fb)) (hm : behindInMarks op b = false := by first | exact nomark _ | rfl) : PT X (.Compare a [op] [b] pos) (tSemT X.kw (dOp2T g fa fb)) := ptWeak (pt_cmpR ho ha hb hm) (sem_op2T op2G)
/-- f(..), f a built-in -/
theorem eB {x : Str} {p : Pos} {e : Expr} {es : List Expr} {id : String} {f : M (List Rs)} {g : List D → Option Rs} (hc : CallR X (.builtin id) (rGN X.kw g)) (hg : Gl X x) (hm : X.mg x = none) (hv : bootBuiltins x = some (.builtin id)) (ha : PA X (e :: es) (tSemA X.kw f)) (hn : x ≠ "__name__" := by decide) (hdb : (x == ("__debug__" : Str)) = false := by decide)
    (he : starEach (e :: es) X.env = (false, eval e X.env) :: starEach es X.env := by rfl) (hpl : (backTo pos (starEach es X.env)).any (·.1) = false := by rfl) : PE X (.Call (.Name x p) (e :: es) [] pos) (tSem X.kw (dB g f)) := peWeak (pe_callB hc hg hm hv ha hn hdb he hpl) (sem_B opNG)
theorem eTy {x : Str} {p : Pos} {e : Expr} {es : List Expr} {id : String} {f : M (List Rs)} {g : List D → Option Rs} (hc : CallR X (.type id) (rGN X.kw g)) (hg : Gl X x) (hm : X.mg x = none) (hv : bootBuiltins x = some (.type id)) (ha : PA X (e :: es) (tSemA X.kw f)) (hn : x ≠ "__name__" := by decide) (hdb : (x == ("__debug__" : Str)) = false := by decide)
    (he : starEach (e :: es) X.env = (false, eval e X.env) :: starEach es X.env := by rfl) (hpl : (backTo pos (starEach es X.env)).any (·.1) = false := by rfl) : PE X (.Call (.Name x p) (e :: es) [] pos) (tSem X.kw (dB g f)) := peWeak (pe_callTy hc hg hm hv ha hn hdb he hpl) (sem_B opNG)
end
/-! ### numbers -/
def mulOk (i j : Int) : Bool := decide (-(2 ^ 64) < i ∧ i < 2 ^ 64) || decide (-(2 ^ 64) < j ∧ j < 2 ^ 64)
def gAdd : G2
  | .int i, .int j => some (.fz (.int (i + j)))
  | .str i, .str j => if i.length + j.length ≤ sizeLine then some (.fz (.str (i ++ j))) else none
  | .list i, .list j => if i.length + j.length ≤ sizeLine then some (.ow (.list (i ++ j))) else none
  | .tuple i, .tuple j => if i.length + j.length ≤ sizeLine then some (.fz (.tuple (i ++ j))) else none
  | _, _ => none
def gSub : G2
  | .int i, .int j => some (.fz (.int (i - j)))
  | _, _ => none
def gMul : G2
  | .int i, .int j => if mulOk i j then some (.fz (.int (i * j))) else none
  | _, _ => none
def gDiv : G2
  | .int i, .int j => if 0 < j ∧ j < 1073741824 then some (.fz (.int (i / j))) else if j ≠ 0 ∧ j.natAbs < 1073741824 then some (.fz (.int (i.fdiv j))) else none
  | _, _ => none
def gMod : G2
  | .int i, .int j => if 0 < j then some (.fz (.int (i % j))) else if j ≠ 0 then some (.fz (.int (i.fmod j))) else none
  | _, _ => none
def gPow : G2
  | .int i, .int j => if 0 ≤ j ∧ j ≤ 1000000 ∧ i.natAbs < 2 ^ 64 then some (.fz (.int (i ^ j.toNat))) else none
  | _, _ => none
def gNeg : D → Option Rs
  | .int i => some (.fz (.int (-i)))
  | _ => none
section
variable {X : Cx}
theorem cat_rd : OpR X (binaryOp .Add) (fun x y H Q => ∃ l b xs zs, x = .ref l ∧ y = .ref b ∧ Rd H l (.lst xs) ∧ Rd H b (.lst zs) ∧ xs.length + zs.length ≤ sizeLine ∧ ∀ p, H p = none → Q (.ref p) (upd H p (.lst (xs ++ zs)))) := by
  intro pins s σ H x y v u Q I rx ry h
  obtain ⟨l, b, xs, zs, rfl, rfl, hH, hB, hz, q⟩ := h
  cases rx
  cases ry
  obtain ⟨z, its, n, r, e⟩ := hH.ok I.hok
  obtain ⟨z2, its2, n2, r2, e2⟩ := hB.ok I.hok
  have hl := r.length
  have hl2 := r2.length
  refine PySem.P.add_list e e2 ?_ (by rw [List.size_toArray, List.size_toArray]; omega)
  have ea : its.toArray ++ its2.toArray = (its ++ its2).toArray := by simp
  rw [ea]
  exact ⟨.ref _, _, I.lnew (t' := s.toks) (r.append r2) (by rw [List.length_append]; omega), rfl, q _ I.fresh⟩
/-- t + u, the new tuple told to have no dict of its own -/
def rCatAD (K : KW) : R2 := fun x y H Q => ∃ a b xs ys, x = .ref a ∧ y = .ref b ∧ SqT K H a xs ∧ SqT K H b ys ∧ xs.length + ys.length ≤ sizeLine ∧
  (xs = [] → Q (.ref b) H) ∧ (xs ≠ [] → ys = [] → Q (.ref a) H) ∧ (xs ≠ [] → ys ≠ [] → ∀ p ob, H p = none → ob.dict = none → Q (.ref p) (upd H p (.frz ob (.tup (xs ++ ys)))))
theorem op_catAD : OpR X (binaryOp .Add) (rCatAD X.kw) := by
  intro pins s σ H x y v u Q I rx ry h
  obtain ⟨a, b, xs, ys, rfl, rfl, ha, hb, hz, q0, q1, q2⟩ := h
  cases rx
  cases ry
  obtain ⟨its, r1, p1, _⟩ := I.tuple ha
  obtain ⟨its2, r2, p2, _⟩ := I.tuple hb
  by_cases hx : xs = []
  · subst hx
    cases r1
    exact cat_tup0 p1 p2 ⟨.ref b, H, I, rfl, q0 rfl⟩
  · refine HT.cat_tup p1 p2 (fun z => hx (r1.nil_iff.mp z)) (fun z => ⟨.ref a, H, I, rfl, q1 hx (r2.nil_iff.mp z)⟩) (fun z => ?_) (by rw [← r1.length, ← r2.length]; exact hz)
    exact ⟨.ref s.heap.objs.size, _, I.laid (t' := s.toks) (o := .frz { cls := .type "tuple", data := .seq (its ++ its2).toArray } (.tup (xs ++ ys))) (fun b ob q => Heap.get?_push_of_some _ q) (Nat.le_refl _) ⟨Heap.get?_push_size _ rfl, by rw [List.length_append]; exact hz, _, r1.append r2, IsTup.new _ _⟩, rfl, q2 hx (fun w => z (r2.nil_iff.mpr w)) _ _ (I.hok.fresh (Nat.le_refl _)) rfl⟩
theorem oAdd : OpR X (binaryOp .Add) (rG X.kw gAdd) := by
  intro pins s σ H x y v u Q I rx ry ⟨F, dx, dy, res, sm, hx, hy, e, q⟩
  unfold gAdd at e
  split at e
  · cases e
    exact op_add pins s σ H x y v u Q I rx ry ⟨_, _, hx.int, hy.int, q.same sm (.int _)⟩
  · split at e
    case isFalse => cases e
    case isTrue hl => cases e; exact op_add_str pins s σ H x y v u Q I rx ry ⟨_, _, hx.str, hy.str, hl, q.same sm (.str _)⟩
  · split at e
    case isFalse => cases e
    case isTrue hl =>
      cases e
      obtain ⟨a, vs, e1, h1, r1⟩ := hx.list sm
      obtain ⟨b, ws, e2, h2, r2⟩ := hy.list sm
      exact cat_rd pins s σ H x y v u Q I rx ry ⟨a, b, vs, ws, e1, e2, h1, h2, by rw [r1.length, r2.length]; exact hl, fun p hp => q.lst sm (r1.app r2) hp⟩
  · split at e
    case isFalse => cases e
    case isTrue hl =>
      cases e
      obtain ⟨a, vs, e1, h1, r1⟩ := hx.tuple sm
      obtain ⟨b, ws, e2, h2, r2⟩ := hy.tuple sm
      have p1 := hx.rp (by intro _ z; cases z) (by intro _ z; cases z)
      have p2 := hy.rp (by intro _ z; cases z) (by intro _ z; cases z)
      refine op_catAD pins s σ H x y v u Q I rx ry ⟨a, b, vs, ws, e1, e2, h1, h2, by rw [r1.length, r2.length]; exact hl, fun z => ?_, fun _ z => ?_, fun _ _ p ob hp hd => q.tup sm (r1.app r2) hp hd⟩
      · subst z; cases r1
        exact q.same sm (e2 ▸ p2)
      · subst z; cases r2
        rw [List.append_nil] at q
        exact q.same sm (e1 ▸ p1)
  · cases e
theorem oSub : OpR X (binaryOp .Sub) (rG X.kw gSub) := by
  intro pins s σ H x y v u Q I rx ry ⟨F, dx, dy, res, sm, hx, hy, e, q⟩
  unfold gSub at e
  split at e
  · cases e
    exact op_sub pins s σ H x y v u Q I rx ry ⟨_, _, hx.int, hy.int, q.same sm (.int _)⟩
  · cases e
theorem oMul : OpR X (binaryOp .Mult) (rG X.kw gMul) := by
  intro pins s σ H x y v u Q I rx ry ⟨F, dx, dy, res, sm, hx, hy, e, q⟩
  unfold gMul at e
  split at e
  · split at e
    case isFalse => cases e
    case isTrue h =>
      cases e
      unfold mulOk at h
      rw [Bool.or_eq_true] at h
      exact op_mul pins s σ H x y v u Q I rx ry ⟨_, _, hx.int, hy.int, h.imp of_decide_eq_true of_decide_eq_true, q.same sm (.int _)⟩
  · cases e
theorem oDiv : OpR X (binaryOp .FloorDiv) (rG X.kw gDiv) := by
  intro pins s σ H x y v u Q I rx ry ⟨F, dx, dy, res, sm, hx, hy, e, q⟩
  unfold gDiv at e
  split at e
  · split at e
    case isTrue h => cases e; exact op_fdiv pins s σ H x y v u Q I rx ry ⟨_, _, hx.int, hy.int, h, q.same sm (.int _)⟩
    case isFalse =>
      split at e
      case isTrue h => cases e; exact op_fdivN pins s σ H x y v u Q I rx ry ⟨_, _, hx.int, hy.int, h, q.same sm (.int _)⟩
      case isFalse => cases e
  · cases e
theorem oMod : OpR X (binaryOp .Mod) (rG X.kw gMod) := by
  intro pins s σ H x y v u Q I rx ry ⟨F, dx, dy, res, sm, hx, hy, e, q⟩
  unfold gMod at e
  split at e
  · split at e
    case isTrue h => cases e; exact op_mod pins s σ H x y v u Q I rx ry ⟨_, _, hx.int, hy.int, h, q.same sm (.int _)⟩
    case isFalse =>
      split at e
      case isTrue h => cases e; exact op_modN pins s σ H x y v u Q I rx ry ⟨_, _, hx.int, hy.int, h, q.same sm (.int _)⟩
      case isFalse => cases e
  · cases e
theorem oPow : OpR X (binaryOp .Pow) (rG X.kw gPow) := by
  intro pins s σ H x y v u Q I rx ry ⟨F, dx, dy, res, sm, hx, hy, e, q⟩
  unfold gPow at e
  split at e
  · split at e
    case isTrue h => cases e; exact op_pow pins s σ H x y v u Q I rx ry ⟨_, _, hx.int, hy.int, h, q.same sm (.int _)⟩
    case isFalse => cases e
  · cases e
end
/-! ### data without dicts read off the heap -/
mutual
def noD : D → Bool
  | .dict _ => false
  | .list ds => noDA ds
  | .tuple ds => noDA ds
  | _ => true
def noDA : List D → Bool
  | [] => true
  | d :: ds => noD d && noDA ds
end
mutual
theorem Rp.dp {K : KW} {F H : Hp} (s : Same F H) : ∀ {v : V} {d : D}, Rp K F v d → noD d = true → Dp K H v d
  | _, _, .non, _ => .non
  | _, _, .bl b, _ => .bl b
  | _, _, .int i, _ => .int i
  | _, _, .str x, _ => .str x
  | _, _, .lst h t, n => .lst (.inl (rd_mono s h)) (RpA.dp s t (by simpa [noD] using n))
  | _, _, .tup h t, n => .tup (tupD_mono s h).sq (RpA.dp s t (by simpa [noD] using n))
  | _, _, .dct h t, n => by simp [noD] at n
  | _, _, .tdct h t u, n => by simp [noD] at n
theorem RpA.dp {K : KW} {F H : Hp} (s : Same F H) : ∀ {v : List V} {d : List D}, RpA K F v d → noDA d = true → DpAll K H v d
  | _, _, .nil, _ => .nil
  | _, _, .cons h t, n => by
    rw [noDA, Bool.and_eq_true] at n
    exact .cons (Rp.dp s h n.1) (RpA.dp s t n.2)
end
mutual
theorem noD_lay : ∀ d : D, d.canLay0 = true → noD d = true
  | .none, _ => by simp [noD]
  | .bool _, _ => by simp [noD]
  | .int _, _ => by simp [noD]
  | .str _, _ => by simp [noD]
  | .list ds, h => by simp only [noD]; exact noDA_lay ds (by simpa [PyData.canLay0] using h)
  | .tuple ds, h => by simp only [noD]; exact noDA_lay ds (by simpa [PyData.canLay0] using h)
  | .dict _, h => by simp [PyData.canLay0] at h
theorem noDA_lay : ∀ ds : List D, PyData.canLayAll0 ds = true → noDA ds = true
  | [], _ => by simp [noDA]
  | d :: ds, h => by
    rw [PyData.canLayAll0, Bool.and_eq_true] at h
    rw [noDA, noD_lay d h.1, noDA_lay ds h.2]; rfl
end
theorem noD_shaped {d : D} (h : SeqAt.shaped d = true) : noD d = true := noD_lay d (SeqAt.canLay_of_shaped h)
theorem Vw.dp {K : KW} {F H : Hp} {v : V} {d : D} (s : Same F H) (h : Vw K F H v d) (n : noD d = true) : Dp K H v d := by
  rcases h with h | ⟨a, rfl, o⟩
  · exact h.dp s n
  · cases d with
    | list ds => obtain ⟨vs, e, r⟩ := o; exact .lst (.inl (.inl e)) (r.dp s (by simpa [noD] using n))
    | dict ds => simp [noD] at n
    | _ => exact o.elim
/-! ### comparisons -/
def gEq : D → D → Option Bool
  | .int i, .int j => some (i == j)
  | .str i, .str j => some (i == j)
  | .bool i, .bool j => some (i == j)
  | x, y => if SeqAt.shaped x && SeqAt.shaped y then some (PyData.eqv x y) else none
def gNe (x y : D) : Option Bool := (gEq x y).map fun b => !b
def isNone : D → Bool
  | .none => true
  | _ => false
def cmpOk (x y : D) : Bool := PySem.W.alike x y && !isNone x && noD x && noD y && decide (x.depth ≤ 64)
def gLt : D → D → Option Bool
  | .int i, .int j => some (decide (i < j))
  | x, y => if cmpOk x y then some (PySem.W.dataLt x y) else none
def gLe : D → D → Option Bool
  | .int i, .int j => some (decide (i ≤ j))
  | x, y => if cmpOk x y then some (!PySem.W.dataLt y x) else none
def gGt : D → D → Option Bool
  | .int i, .int j => some (decide (j < i))
  | x, y => if cmpOk x y then some (PySem.W.dataLt y x) else none
def gGe : D → D → Option Bool
  | .int i, .int j => some (decide (j ≤ i))
  | x, y => if cmpOk x y then some (!PySem.W.dataLt x y) else none
theorem map_b {o : Option Bool} {res : Rs} (e : o.map (fun k => Rs.fz (.bool k)) = some res) : ∃ k, o = some k ∧ res = .fz (.bool k) := by
  cases o with
  | none => cases e
  | some k => cases e; exact ⟨k, rfl, rfl⟩
section
variable {X : Cx}
theorem oEq (hu : X.A.units + 64 < cLine) : OpR X (compareOp .Eq) (rG X.kw (gB gEq)) := by
  intro pins s σ H x y v u Q I rx ry ⟨F, dx, dy, res, sm, hx, hy, e, q⟩
  obtain ⟨k, e0, rfl⟩ := map_b e
  clear e
  have e := e0
  clear e0
  unfold gEq at e
  split at e
  · cases e
    refine op_eq pins s σ H x y v u Q I rx ry ⟨by rw [hx.int, hy.int]; rfl, ?_⟩
    rw [hx.int, hy.int, dec_int]; exact q.same sm (.bl _)
  · cases e
    refine op_eq pins s σ H x y v u Q I rx ry ⟨by rw [hx.str, hy.str]; rfl, ?_⟩
    rw [hx.str, hy.str, dec_str]; exact q.same sm (.bl _)
  · cases e
    refine op_eq pins s σ H x y v u Q I rx ry ⟨by rw [hx.bool, hy.bool]; rfl, ?_⟩
    rw [hx.bool, hy.bool, dec_bl]; exact q.same sm (.bl _)
  · split at e
    case isFalse => cases e
    case isTrue h =>
      cases e
      rw [Bool.and_eq_true] at h
      exact op_eqD hu pins s σ H x y v u Q I rx ry ⟨_, _, hx.dp sm (noD_shaped h.1), hy.dp sm (noD_shaped h.2), h.1, h.2, q.same sm (.bl _)⟩
theorem oNe (hu : X.A.units + 64 < cLine) : OpR X (compareOp .NotEq) (rG X.kw (gB gNe)) := by
  intro pins s σ H x y v u Q I rx ry ⟨F, dx, dy, res, sm, hx, hy, e, q⟩
  obtain ⟨k, e0, rfl⟩ := map_b e
  clear e
  have e := e0
  clear e0
  unfold gNe at e
  obtain ⟨k', e0, rfl⟩ : ∃ k', gEq dx dy = some k' ∧ k = !k' := by
    cases h : gEq dx dy with
    | none => rw [h] at e; cases e
    | some k' => rw [h] at e; cases e; exact ⟨k', rfl, rfl⟩
  clear e
  have e := e0
  clear e0
  unfold gEq at e
  split at e
  · cases e
    refine op_ne pins s σ H x y v u Q I rx ry ⟨by rw [hx.int, hy.int]; rfl, ?_⟩
    rw [hx.int, hy.int, dec_int]; exact q.same sm (.bl _)
  · cases e
    refine op_ne pins s σ H x y v u Q I rx ry ⟨by rw [hx.str, hy.str]; rfl, ?_⟩
    rw [hx.str, hy.str, dec_str]; exact q.same sm (.bl _)
  · cases e
    refine op_ne pins s σ H x y v u Q I rx ry ⟨by rw [hx.bool, hy.bool]; rfl, ?_⟩
    rw [hx.bool, hy.bool, dec_bl]; exact q.same sm (.bl _)
  · split at e
    case isFalse => cases e
    case isTrue h =>
      cases e
      rw [Bool.and_eq_true] at h
      exact op_neD hu pins s σ H x y v u Q I rx ry ⟨_, _, hx.dp sm (noD_shaped h.1), hy.dp sm (noD_shaped h.2), h.1, h.2, q.same sm (.bl _)⟩
theorem cmp_room {x y : D} (h : cmpOk x y = true) (hu : X.A.units + 64 < cLine) : PySem.W.alike x y = true ∧ x ≠ .none ∧ noD x = true ∧ noD y = true ∧ X.A.units + min x.depth y.depth < cLine := by
  unfold cmpOk at h
  simp only [Bool.and_eq_true, decide_eq_true_eq] at h
  obtain ⟨⟨⟨⟨h1, h2⟩, h3⟩, h4⟩, h5⟩ := h
  refine ⟨h1, fun z => ?_, h3, h4, ?_⟩
  · subst z; simp [isNone] at h2
  · have := Nat.min_le_left x.depth y.depth
    omega
theorem oLt (hu : X.A.units + 64 < cLine) : OpR X (compareOp .Lt) (rG X.kw (gB gLt)) := by
  intro pins s σ H x y v u Q I rx ry ⟨F, dx, dy, res, sm, hx, hy, e, q⟩
  obtain ⟨k, e0, rfl⟩ := map_b e
  clear e
  have e := e0
  clear e0
  unfold gLt at e
  split at e
  · cases e
    exact op_lt pins s σ H x y v u Q I rx ry ⟨_, _, hx.int, hy.int, q.same sm (.bl _)⟩
  · split at e
    case isFalse => cases e
    case isTrue h =>
      cases e
      obtain ⟨h1, h2, h3, h4, h5⟩ := cmp_room h hu
      obtain ⟨as, r1⟩ := Dp.reads I _ x v (hx.dp sm h3) rx
      obtain ⟨bs, r2⟩ := Dp.reads I _ y u (hy.dp sm h4) ry
      exact PySem.W.lt_data r1 r2 h1 h2 h5 ⟨.bl _, H, I, rfl, q.same sm (.bl _)⟩
theorem oGt (hu : X.A.units + 64 < cLine) : OpR X (compareOp .Gt) (rG X.kw (gB gGt)) := by
  intro pins s σ H x y v u Q I rx ry ⟨F, dx, dy, res, sm, hx, hy, e, q⟩
  obtain ⟨k, e0, rfl⟩ := map_b e
  clear e
  have e := e0
  clear e0
  unfold gGt at e
  split at e
  · cases e
    exact op_gt pins s σ H x y v u Q I rx ry ⟨_, _, hx.int, hy.int, q.same sm (.bl _)⟩
  · split at e
    case isFalse => cases e
    case isTrue h =>
      cases e
      obtain ⟨h1, h2, h3, h4, h5⟩ := cmp_room h hu
      obtain ⟨as, r1⟩ := Dp.reads I _ x v (hx.dp sm h3) rx
      obtain ⟨bs, r2⟩ := Dp.reads I _ y u (hy.dp sm h4) ry
      exact PySem.W.gt_data r1 r2 h1 h2 h5 ⟨.bl _, H, I, rfl, q.same sm (.bl _)⟩
theorem oLe (hu : X.A.units + 64 < cLine) : OpR X (compareOp .LtE) (rG X.kw (gB gLe)) := by
  intro pins s σ H x y v u Q I rx ry ⟨F, dx, dy, res, sm, hx, hy, e, q⟩
  obtain ⟨k, e0, rfl⟩ := map_b e
  clear e
  have e := e0
  clear e0
  unfold gLe at e
  split at e
  · cases e
    exact op_le pins s σ H x y v u Q I rx ry ⟨_, _, hx.int, hy.int, q.same sm (.bl _)⟩
  · split at e
    case isFalse => cases e
    case isTrue h =>
      cases e
      obtain ⟨h1, h2, h3, h4, h5⟩ := cmp_room h hu
      obtain ⟨as, r1⟩ := Dp.reads I _ x v (hx.dp sm h3) rx
      obtain ⟨bs, r2⟩ := Dp.reads I _ y u (hy.dp sm h4) ry
      exact PySem.W.le_data r1 r2 h1 h2 h5 ⟨.bl _, H, I, rfl, q.same sm (.bl _)⟩
theorem oGe (hu : X.A.units + 64 < cLine) : OpR X (compareOp .GtE) (rG X.kw (gB gGe)) := by
  intro pins s σ H x y v u Q I rx ry ⟨F, dx, dy, res, sm, hx, hy, e, q⟩
  obtain ⟨k, e0, rfl⟩ := map_b e
  clear e
  have e := e0
  clear e0
  unfold gGe at e
  split at e
  · cases e
    exact op_ge pins s σ H x y v u Q I rx ry ⟨_, _, hx.int, hy.int, q.same sm (.bl _)⟩
  · split at e
    case isFalse => cases e
    case isTrue h =>
      cases e
      obtain ⟨h1, h2, h3, h4, h5⟩ := cmp_room h hu
      obtain ⟨as, r1⟩ := Dp.reads I _ x v (hx.dp sm h3) rx
      obtain ⟨bs, r2⟩ := Dp.reads I _ y u (hy.dp sm h4) ry
      exact PySem.W.ge_data r1 r2 h1 h2 h5 ⟨.bl _, H, I, rfl, q.same sm (.bl _)⟩
end
end DL
namespace DL
open PySem PySem.Spec PyProof.Rows L2
/-! ### dicts with tuple keys -/
mutual
def nkOf : D → Option NK
  | .none => some .none
  | .int i => some (.num i)
  | .str x => some (.text x)
  | .tuple ds => (nkOfA ds).map .tup
  | _ => none
def nkOfA : List D → Option (List NK)
  | [] => some []
  | d :: ds => match nkOf d, nkOfA ds with
    | some k, some ks => some (k :: ks)
    | _, _ => none
end
mutual
theorem nkOf_kN : ∀ k : NK, nkOf (kN k) = some k
  | .none => by simp only [NestedKey.data, nkOf]
  | .num i => by simp only [NestedKey.data, nkOf]
  | .text x => by simp only [NestedKey.data, nkOf]
  | .tup ks => by simp only [NestedKey.data, nkOf, nkOfA_kN ks, Option.map_some]
theorem nkOfA_kN : ∀ ks : List NK, nkOfA (NestedKey.datas ks) = some ks
  | [] => by simp only [NestedKey.datas, nkOfA]
  | k :: ks => by simp only [NestedKey.datas, nkOfA, nkOf_kN k, nkOfA_kN ks]
end
mutual
theorem nkOf_some : ∀ {d : D} {k : NK}, nkOf d = some k → d = kN k
  | .none, k, h => by simp only [nkOf, Option.some.injEq] at h; subst h; simp only [NestedKey.data]
  | .int i, k, h => by simp only [nkOf, Option.some.injEq] at h; subst h; simp only [NestedKey.data]
  | .str x, k, h => by simp only [nkOf, Option.some.injEq] at h; subst h; simp only [NestedKey.data]
  | .tuple ds, k, h => by
    simp only [nkOf] at h
    cases e : nkOfA ds with
    | none => rw [e] at h; cases h
    | some ks => rw [e] at h; cases h; simp only [NestedKey.data, nkOfA_some e]
  | .bool _, k, h => by simp only [nkOf] at h; cases h
  | .list _, k, h => by simp only [nkOf] at h; cases h
  | .dict _, k, h => by simp only [nkOf] at h; cases h
theorem nkOfA_some : ∀ {ds : List D} {ks : List NK}, nkOfA ds = some ks → ds = NestedKey.datas ks
  | [], ks, h => by simp only [nkOfA, Option.some.injEq] at h; subst h; simp only [NestedKey.datas]
  | d :: ds, ks, h => by
    simp only [nkOfA] at h
    cases e1 : nkOf d with
    | none => simp only [e1] at h; cases h
    | some k =>
      cases e2 : nkOfA ds with
      | none => simp only [e1, e2] at h; cases h
      | some ks' =>
        simp only [e1, e2, Option.some.injEq] at h
        subst h
        simp only [NestedKey.datas, ← nkOf_some e1, ← nkOfA_some e2]
end
/-- the key that a tuple is -/
def tkOf (d : D) : Option NK := match d with
  | .tuple ds => match nkOf (.tuple ds) with
    | some k => if k.depth ≤ 8 then some k else none
    | none => none
  | _ => none
theorem tkOf_some {d : D} {k : NK} (h : tkOf d = some k) : d = kN k ∧ k.depth ≤ 8 ∧ ∃ ds, d = .tuple ds := by
  unfold tkOf at h
  split at h
  · rename_i ds
    split at h
    · rename_i k' e
      split at h
      · rename_i hd
        cases h
        exact ⟨nkOf_some e, hd, _, rfl⟩
      · cases h
    · cases h
  · cases h
def dgetT (k : NK) : List (D × D) → Option D
  | [] => none
  | p :: r => if nkOf p.1 = some k then some p.2 else dgetT k r
def dhasT (k : NK) (ds : List (D × D)) : Bool := ds.any fun p => decide (nkOf p.1 = some k)
abbrev XS := List (NK × Addr × V)
def valX (xs : XS) (k : NK) : Option V := (xs.find? fun x => decide (x.1 = k)).map fun x => x.2.2
section
variable {K : KW} {F F' H H' : Hp}
theorem zipT_get {k : NK} : ∀ {xs : XS} {es : List D}, RpA K F (xs.map fun x => x.2.2) es → (∀ d, dgetT k (List.zip ((xs.map (·.1)).map kN) es) = some d → ∃ v, valX xs k = some v ∧ Rp K F v d) ∧ (dgetT k (List.zip ((xs.map (·.1)).map kN) es) = none → valX xs k = none)
  | [], _, .nil => ⟨fun d e => (nomatch e), fun _ => rfl⟩
  | x :: xs, _, .cons (d := d0) (ds := es) h t => by
    obtain ⟨h1, h2⟩ := zipT_get (k := k) t
    rw [List.map_cons, List.map_cons, List.zip_cons_cons]
    unfold dgetT valX
    rw [nkOf_kN, List.find?_cons]
    by_cases e : x.1 = k
    · subst e
      rw [if_pos rfl]
      simp only [decide_true, Option.map_some]
      exact ⟨fun d q => by cases q; exact ⟨_, rfl, h⟩, fun q => by cases q⟩
    · rw [if_neg (fun z => e (Option.some.inj z))]
      simp only [decide_eq_false e]
      exact ⟨h1, h2⟩
theorem tag_get {k : NK} {ks : List NK} {xs : XS} {es : List D} (hk : k = .tup ks) (h : RpA K F (xs.map fun x => x.2.2) es) : (∀ d, dgetT k (tagT (xs.map (·.1)) es) = some d → ∃ v, valX xs k = some v ∧ Rp K F v d) ∧ (dgetT k (tagT (xs.map (·.1)) es) = none → valX xs k = none) := by
  have e : dgetT k (tagT (xs.map (·.1)) es) = dgetT k (List.zip ((xs.map (·.1)).map kN) es) := by
    subst hk
    show (if nkOf .none = some (NestedKey.tup ks) then _ else _) = _
    rw [if_neg (by simp only [nkOf]; intro z; cases z)]
  rw [e]; exact zipT_get h
theorem zipT_has {k : NK} : ∀ {xs : XS} {es : List D}, RpA K F (xs.map fun x => x.2.2) es → dhasT k (List.zip ((xs.map (·.1)).map kN) es) = xs.any fun x => decide (x.1 = k)
  | [], _, .nil => rfl
  | x :: xs, _, .cons h t => by
    have ih := zipT_has (k := k) t
    unfold dhasT at ih ⊢
    rw [List.map_cons, List.map_cons, List.zip_cons_cons, List.any_cons, List.any_cons, ih, nkOf_kN]
    congr 1
    exact decide_eq_decide.mpr ⟨fun z => Option.some.inj z, fun z => by rw [z]⟩
theorem tag_has {k : NK} {ks : List NK} {xs : XS} {es : List D} (hk : k = .tup ks) (h : RpA K F (xs.map fun x => x.2.2) es) : dhasT k (tagT (xs.map (·.1)) es) = xs.any fun x => decide (x.1 = k) := by
  rw [← zipT_has h]
  subst hk
  show (decide (nkOf .none = some (NestedKey.tup ks)) || _) = _
  rw [decide_eq_false (by simp only [nkOf]; intro z; cases z), Bool.false_or]; rfl
section
variable {X : Cx} {pins : List (Addr × Obj)} {σ : SS} {s : Shared}
mutual
theorem nested_is (I : Inv X pins σ H s) (sm : Same F H) : ∀ (k : NK) (v : V) (u : Value), Rp X.kw F v (kN k) → RelV v u → NestedIs s.heap k u
  | .none, v, u, r, q => by
    simp only [NestedKey.data] at r
    cases r
    cases (show u = Value.none from q); exact .none
  | .num i, v, u, r, q => by
    simp only [NestedKey.data] at r
    cases r
    obtain ⟨t, e⟩ := (show ∃ t, u = Value.int i t from q); cases e; exact .int _ _
  | .text x, v, u, r, q => by
    simp only [NestedKey.data] at r
    cases r
    obtain ⟨t, e⟩ := (show ∃ t, u = Value.str x t from q); cases e; exact .text _ _
  | .tup ks, v, u, r, q => by
    simp only [NestedKey.data] at r
    cases r with
    | tup h r =>
      cases q
      obtain ⟨its, rv, ⟨o, ho, hc, n, hd⟩, _⟩ := I.tuple (tupD_mono sm h).sq
      exact .tup ho hc hd (nested_all I sm ks _ _ r (by simpa using rv))
theorem nested_all (I : Inv X pins σ H s) (sm : Same F H) : ∀ (ks : List NK) (vs : List V) (us : List Value), RpA X.kw F vs (NestedKey.datas ks) → Vals vs us → NestedAll s.heap ks us
  | [], vs, us, r, q => by
    simp only [NestedKey.datas] at r
    cases r; cases q; exact .nil
  | k :: ks, vs, us, r, q => by
    simp only [NestedKey.datas] at r
    cases r with
    | cons r1 r2 =>
      cases q with
      | cons q1 q2 => exact .cons (nested_is I sm k _ _ r1 q1) (nested_all I sm ks _ _ r2 q2)
end
/-- what kit rules for dicts with keys of a heap kind ask -/
theorem rawX_get {a : Addr} {xs : XS} (I : Inv X pins σ H s) (sm : Same F H) (hd : Rd H a (dX X.w a xs)) (hk : RpA X.kw F (xs.map fun x => V.ref x.2.1) (xs.map fun x => kN x.1)) :
    ∃ us : List (NK × Addr × Value), Paired (fun (p : NK × Addr × V) (q : NK × Addr × Value) => p.1 = q.1 ∧ p.2.1 = q.2.1 ∧ RelV p.2.2 q.2.2) xs us ∧ s.heap.DictOfH (nestedKind X.prog X.w) a us ∧ (a == sysModules) = false ∧ us.length ≤ sizeLine := by
  obtain ⟨⟨hz, h8, hs, us, pr, o, es, ep, h1, h2, h3, h4, h5⟩, _⟩ := hd.ok I.hok
  refine ⟨us, pr, ⟨o, es, ep, h1, h2, h3, h4, fun x hx => ?_, h5⟩, hs, by rw [← Paired.length pr]; exact hz⟩
  have key : ∀ {xs : XS} {us : List (NK × Addr × Value)}, Paired (fun (p : NK × Addr × V) (q : NK × Addr × Value) => p.1 = q.1 ∧ p.2.1 = q.2.1 ∧ RelV p.2.2 q.2.2) xs us → (∀ x ∈ xs, x.1.depth ≤ 8) → RpA X.kw F (xs.map fun x => V.ref x.2.1) (xs.map fun x => kN x.1) → ∀ x ∈ us, (nestedKind X.prog X.w).is s.heap x.1 x.2.1 := by
    intro xs us q
    induction q with
    | nil => intro _ _ x hx; simp at hx
    | @cons p q ps qs hq t ih =>
      intro h8 hk x hx
      cases hk with
      | cons k1 k2 =>
        rcases List.mem_cons.mp hx with e | hx
        · subst e
          have := nested_is I sm p.1 _ _ k1 (show RelV (V.ref p.2.1) (Value.ref p.2.1) from rfl)
          rw [hq.1, hq.2.1] at this
          exact ⟨this, by rw [← hq.1]; exact h8 p (by simp)⟩
        · exact ih (fun y hy => h8 y (by simp [hy])) k2 x hx
  exact key pr h8 hk x hx
theorem at_val {k : NK} : ∀ {xs : XS} {us : List (NK × Addr × Value)}, Paired (fun (p : NK × Addr × V) (q : NK × Addr × Value) => p.1 = q.1 ∧ p.2.1 = q.2.1 ∧ RelV p.2.2 q.2.2) xs us → RelO (valX xs k) ((atKey us k).map (·.2))
  | _, _, .nil => trivial
  | _, _, .cons (a := p) (b := q) h t => by
    unfold valX atKey
    rw [List.find?_cons, List.find?_cons, ← h.1]
    by_cases e : p.1 = k
    · simp only [decide_eq_true e, Option.map_some]; exact h.2.2
    · simp only [decide_eq_false e]; exact at_val t
theorem has_val {k : NK} {xs : XS} {us : List (NK × Addr × Value)} (q : Paired (fun (p : NK × Addr × V) (q : NK × Addr × Value) => p.1 = q.1 ∧ p.2.1 = q.2.1 ∧ RelV p.2.2 q.2.2) xs us) : (xs.any fun x => decide (x.1 = k)) = (atKey us k).isSome := by
  induction q with
  | nil => rfl
  | @cons p q ps qs h t ih =>
    unfold atKey at ih ⊢
    rw [List.any_cons, List.find?_cons, ← h.1, ih]
    by_cases e : p.1 = k
    · simp [e]
    · simp [e]
end
end
end DL
namespace DL
open PySem PySem.Spec PyProof.Rows L2
section
variable {K : KW} {F H F' H' : Hp} {σ σ' : SS} {ρ ρ' : List Sl}
/-! ### items -/
theorem rpA_atI {vs : List V} {ds : List D} {i : Int} {d : D} (h : RpA K F vs ds) (e : atI ds i = some d) : ∃ v, atI vs i = some v ∧ Rp K F v d := by
  unfold atI at e ⊢
  rw [h.length]
  cases q : ixN ds.length i with
  | none => rw [q] at e; cases e
  | some j =>
    rw [q] at e
    have e : ds[j]? = some d := e
    have hj : j < vs.length := by rw [h.length]; exact (List.getElem?_eq_some_iff.mp e).1
    exact ⟨vs[j], List.getElem?_eq_getElem hj, h.get (List.getElem?_eq_getElem hj) e⟩
def keyEq (k : Key) : D → Bool
  | .int j => match k with
    | .inl i => i == j
    | _ => false
  | .str y => match k with
    | .inr x => x == y
    | _ => false
  | _ => false
def dget (k : Key) : List (D × D) → Option D
  | [] => none
  | p :: r => if keyEq k p.1 then some p.2 else dget k r
def dput (k : Key) (d : D) (kvs : List (D × D)) : List (D × D) :=
  if (kvs.any fun p => keyEq k p.1) = true then kvs.map (fun p => if keyEq k p.1 then (p.1, d) else p) else kvs ++ [(kD k, d)]
def keyOf : D → Option Key
  | .int i => some (.inl i)
  | .str x => some (.inr x)
  | _ => none
theorem keyEq_kD (k j : Key) : keyEq k (kD j) = decide (j = k) := by
  cases k with
  | inl i =>
    cases j with
    | inl m =>
      show (i == m) = _
      by_cases h : i = m
      · subst h; simp
      · rw [decide_eq_false (fun z => h (Sum.inl.inj z).symm)]; simpa using h
    | inr y => rfl
  | inr x =>
    cases j with
    | inl m => rfl
    | inr y =>
      show (x == y) = _
      by_cases h : x = y
      · subst h; simp
      · rw [decide_eq_false (fun z => h (Sum.inr.inj z).symm)]; simpa using h
theorem dgetR {H : Hp} {a : Addr} {kvs : List (Key × V)} {k : Key} (e : Rd H a (.dK kvs)) : DGet H a (kV k) (valV kvs k) := .inl ⟨kvs, k, e, rfl, rfl⟩
theorem keyOf_some {d : D} {k : Key} (h : keyOf d = some k) : d = kD k := by
  cases d with
  | int i => cases h; rfl
  | str x => cases h; rfl
  | _ => cases h
theorem Vw.key {v : V} {d : D} {k : Key} (h : Vw K F H v d) (e : keyOf d = some k) : v = kV k := by
  have := keyOf_some e
  subst this
  cases k with
  | inl i => exact h.int
  | inr x => exact h.str
theorem rpK_get {k : Key} : ∀ {kvs : List (Key × V)} {ds : List (D × D)}, RpK K F kvs ds → (∀ d, dget k ds = some d → ∃ v, valV kvs k = some v ∧ Rp K F v d) ∧ (dget k ds = none → valV kvs k = none)
  | _, _, .nil => ⟨fun d (e : none = some d) => (nomatch e), fun _ => rfl⟩
  | _, _, .cons (k := j) (v := v) (d := d) h t => by
    obtain ⟨h1, h2⟩ := rpK_get t
    unfold dget
    simp only [keyEq_kD]
    by_cases e : j = k
    · simp only [decide_eq_true e, if_true]
      exact ⟨fun d' e' => by cases e'; exact ⟨v, valV_pos e, h⟩, fun e' => by cases e'⟩
    · simp only [decide_eq_false e]
      rw [valV_neg (p := (j, v)) e]
      exact ⟨h1, h2⟩
theorem rpK_any {k : Key} : ∀ {kvs : List (Key × V)} {ds : List (D × D)}, RpK K F kvs ds → (kvs.any fun kv => decide (kv.1 = k)) = ds.any fun p => keyEq k p.1
  | _, _, .nil => rfl
  | _, _, .cons h t => by rw [List.any_cons, List.any_cons, rpK_any t, keyEq_kD]
theorem rpK_map {k : Key} {v : V} {d : D} (r : Rp K F v d) : ∀ {kvs : List (Key × V)} {ds : List (D × D)}, RpK K F kvs ds → RpK K F (kvs.map fun kv => if kv.1 = k then (kv.1, v) else kv) (ds.map fun p => if keyEq k p.1 then (p.1, d) else p)
  | _, _, .nil => .nil
  | _, _, .cons (k := j) h t => by
    rw [List.map_cons, List.map_cons]
    simp only [keyEq_kD]
    by_cases e : j = k
    · simp only [e, if_true, decide_true]; exact .cons r (rpK_map r t)
    · simp only [decide_eq_false e, if_neg e]; exact .cons h (rpK_map r t)
theorem RpK.snoc {k : Key} {v : V} {d : D} (r : Rp K F v d) : ∀ {kvs : List (Key × V)} {ds : List (D × D)}, RpK K F kvs ds → RpK K F (kvs ++ [(k, v)]) (ds ++ [(kD k, d)])
  | _, _, .nil => .cons r .nil
  | _, _, .cons h t => .cons h (RpK.snoc r t)
theorem rpK_put {kvs : List (Key × V)} {ds : List (D × D)} {k : Key} {v : V} {d : D} (h : RpK K F kvs ds) (r : Rp K F v d) : RpK K F (putK kvs k v) (dput k d ds) := by
  unfold putK dput
  rw [rpK_any h]
  split
  · exact rpK_map r h
  · exact h.snoc r
def cutD (ds : List D) (lo hi : Option Int) : List D := (ds.drop (HT.sIx ds.length 0 lo)).take (HT.sIx ds.length ds.length hi - HT.sIx ds.length 0 lo)
theorem rpA_cut {vs : List V} {ds : List D} (h : RpA K F vs ds) (lo hi : Option Int) : RpA K F (cutV vs lo hi) (cutD ds lo hi) := by
  unfold cutV cutD
  rw [h.length]
  exact (h.drop _).take _
def gIx : G2
  | .list ds, .int i => (atI ds i).map .fz
  | .tuple ds, .int i => (atI ds i).map .fz
  | .str z, .int i => if z.length ≤ sizeLine then (atI z.cps.toList i).map fun c => .fz (.str ⟨#[c]⟩) else none
  | .dict kvs, k => if isK kvs = true then (keyOf k).bind fun k => (dget k kvs).map .fz else (tkOf k).bind fun k => (dgetT k kvs).map .fz
  | _, _ => none
def gSl (d : D) (lo hi : Option Int) : Option Rs := match d with
  | .list ds => some (.ow (.list (cutD ds lo hi)))
  | .tuple ds => some (.fz (.tuple (cutD ds lo hi)))
  | .str z => if z.length ≤ sizeLine then some (.fz (.str (cutS z lo hi))) else none
  | _ => none
section
variable {X : Cx}
theorem opt_bind {α β : Type} {o : Option α} {f : α → Option β} {b : β} (e : o.bind f = some b) : ∃ a, o = some a ∧ f a = some b := by
  cases o with
  | none => cases e
  | some a => exact ⟨a, rfl, e⟩
theorem opt_map {α β : Type} {o : Option α} {f : α → β} {b : β} (e : o.map f = some b) : ∃ a, o = some a ∧ f a = b := by
  cases o with
  | none => cases e
  | some a => cases e; exact ⟨a, rfl, rfl⟩
theorem nk_room {A : Around} (hu : A.units + 9 < cLine) : A.in1.units + 8 < cLine := by
  have : A.in1.units = A.units + 1 := rfl
  omega
/-- the key tuple is a key -/
theorem Vw.tkey {pins : List (Addr × Obj)} {σ : SS} {F H : Hp} {s : Shared} {v : V} {u : Value} {d : D} {k : NK} (I : Inv X pins σ H s) (sm : Same F H) (h : Vw X.kw F H v d) (e : tkOf d = some k) (r : RelV v u) : ∃ (b : Addr) (ks : List NK), u = .ref b ∧ v = .ref b ∧ k = .tup ks ∧ Rp X.kw F (.ref b) (kN k) ∧ (nestedKind X.prog X.w).is s.heap k b ∧ k.depth ≤ 8 := by
  obtain ⟨e1, e2, ds, e3⟩ := tkOf_some e
  have hr : Rp X.kw F v d := by subst e3; exact h.rp (by intro _ z; cases z) (by intro _ z; cases z)
  rw [e1] at hr
  have hk : ∃ ks, k = .tup ks := by
    rw [e3] at e1
    cases k with
    | tup ks => exact ⟨ks, rfl⟩
    | _ => simp only [NestedKey.data] at e1; cases e1
  obtain ⟨ks, rfl⟩ := hk
  have hn := nested_is I sm (.tup ks) v u hr r
  have hv : ∃ b, v = .ref b := by
    have hr2 := hr
    simp only [NestedKey.data] at hr2
    cases hr2; exact ⟨_, rfl⟩
  obtain ⟨b, rfl⟩ := hv
  cases r
  exact ⟨b, ks, rfl, rfl, rfl, hr, ⟨hn, e2⟩, e2⟩
theorem oIx (hu : X.A.units + 9 < cLine) : IxR X (rG X.kw gIx) := by
  intro value slice pins s σ H x y v u Q I rx ry ⟨F, dx, dy, res, sm, hx, hy, e, q⟩ hs
  unfold gIx at e
  split at e
  · obtain ⟨d, e1, rfl⟩ := opt_map e
    obtain ⟨a, vs, ev, h1, r1⟩ := hx.list sm
    obtain ⟨z, e2, rz⟩ := rpA_atI r1 e1
    exact ix_list value slice pins s σ H x y v u Q I rx ry ⟨a, vs, _, z, ev, hy.int, .inl h1, e2, q.same sm rz⟩ hs
  · obtain ⟨d, e1, rfl⟩ := opt_map e
    obtain ⟨a, vs, ev, h1, r1⟩ := hx.tuple sm
    obtain ⟨z, e2, rz⟩ := rpA_atI r1 e1
    exact ix_tup value slice pins s σ H x y v u Q I rx ry ⟨a, vs, _, z, ev, hy.int, h1, e2, q.same sm rz⟩ hs
  · split at e
    case isFalse => cases e
    case isTrue hz =>
      obtain ⟨c, e1, rfl⟩ := opt_map e
      exact ix_str value slice pins s σ H x y v u Q I rx ry ⟨_, _, c, hx.str, hy.int, hz, e1, q.same sm (.str _)⟩ hs
  · split at e
    case isTrue hkk =>
      cases ek : keyOf dy with
      | none => rw [ek] at e; cases e
      | some k =>
        rw [ek] at e
        obtain ⟨d, e1, rfl⟩ := opt_map e
        obtain ⟨a, kvs, rfl, h1, r1⟩ := hx.dict sm hkk
        obtain ⟨z, e2, rz⟩ := (rpK_get r1).1 d e1
        have hk := hy.key ek
        subst hk
        cases rx
        have g : DGet H a (kV k) (some z) := e2 ▸ dgetR h1
        exact tail_any (dict_typeIs I g) PySem.F.slot_dict_getitem.lookup (d_getItem (by omega) I g ry fun w' s3 I3 rw' => ⟨z, H, I3, rw', q.same sm rz⟩) hs
    case isFalse hkk =>
      obtain ⟨k, ek, e⟩ := opt_bind e
      obtain ⟨d, e1, rfl⟩ := opt_map e
      obtain ⟨a, xs, es, rfl, h1, r0, r1, rfl⟩ := hx.tdict sm (by simpa using hkk)
      obtain ⟨b, ks, rfl, rfl, hk, rb, his, _⟩ := hy.tkey I sm ek ry
      obtain ⟨z, e2, rz⟩ := (tag_get hk r1).1 d e1
      cases rx
      obtain ⟨us, pr, dd, _, _⟩ := rawX_get I sm h1 r0
      have ra := at_val (k := k) pr
      rw [e2] at ra
      obtain ⟨p, hp, hp2⟩ : ∃ p, atKey us k = some p ∧ RelV z p.2 := by
        cases hq : atKey us k with
        | none => rw [hq] at ra; exact ra.elim
        | some p => rw [hq] at ra; exact ⟨p, rfl, ra⟩
      exact tail_any dd.typeIs PySem.F.slot_dict_getitem.lookup (wpAny_getItem_heap (knd := nestedKind X.prog X.w) (nk_room (by omega)) his dd hp ⟨z, H, I.tok _, hp2, q.same sm rz⟩) hs
  · cases e
def rSlAD (K : KW) : V → Option Int → Option Int → Hp → VK → Prop := fun x lo hi H Q => ∃ a xs, x = .ref a ∧ SqT K H a xs ∧
  (HT.sIx xs.length 0 lo = 0 ∧ HT.sIx xs.length xs.length hi = xs.length → Q (.ref a) H) ∧ (¬ (HT.sIx xs.length 0 lo = 0 ∧ HT.sIx xs.length xs.length hi = xs.length) → ∀ p ob, H p = none → ob.dict = none → Q (.ref p) (upd H p (.frz ob (.tup (cutV xs lo hi)))))
theorem sl_tupAD : SlR X (rSlAD X.kw) := by
  intro pins s σ H x v vl vu lo hi sl Q I rx hs pl pu h
  obtain ⟨a, xs, rfl, hx, q1, q2⟩ := h
  cases rx
  obtain ⟨its, r, ht, hz⟩ := I.tuple hx
  have hlen : its.toArray.size = xs.length := by rw [List.size_toArray]; exact r.length.symm
  refine ⟨"tuple", _, PyProof.Rows.slot_tuple_getitem.lookup, ht.typeIs, ?_⟩
  by_cases hw : HT.sIx xs.length 0 lo = 0 ∧ HT.sIx xs.length xs.length hi = xs.length
  · exact getItem_tuple_whole ht hs pl pu (by rw [hlen]; exact hw) ⟨.ref a, H, I, rfl, q1 hw⟩
  · refine HT.getItem_tuple_cut ht hs pl pu (by rw [hlen]; exact hw) ?_ (by rw [hlen]; exact hz)
    rw [hlen]
    refine ⟨.ref s.heap.objs.size, _, I.laid (t' := s.toks) (o := .frz _ (.tup (cutV xs lo hi))) (fun b ob q => Heap.get?_push_of_some _ q) (Nat.le_refl _) ⟨Heap.get?_push_size _ rfl, ?_⟩, rfl, q2 hw _ _ (I.hok.fresh (Nat.le_refl _)) rfl⟩
    exact ⟨Nat.le_trans (cutV_length xs lo hi) hz, _, (r.drop (HT.sIx xs.length 0 lo)).take (HT.sIx xs.length xs.length hi - HT.sIx xs.length 0 lo), IsTup.new _ _⟩
theorem oSl : SlR X (fun x lo hi H Q => ∃ F dx res, Same F H ∧ Vw X.kw F H x dx ∧ gSl dx lo hi = some res ∧ NewR X.kw F H res Q) := by
  intro pins s σ H x v vl vu lo hi sl Q I rx hs pl pu ⟨F, dx, res, sm, hx, e, q⟩
  unfold gSl at e
  split at e
  · cases e
    obtain ⟨a, vs, ev, h1, r1⟩ := hx.list sm
    exact sl_list pins s σ H x v vl vu lo hi sl Q I rx hs pl pu ⟨a, vs, ev, .inl h1, fun p hp => q.lst sm (rpA_cut r1 lo hi) hp⟩
  · cases e
    obtain ⟨a, vs, ev, h1, r1⟩ := hx.tuple sm
    refine sl_tupAD pins s σ H x v vl vu lo hi sl Q I rx hs pl pu ⟨a, vs, ev, h1, fun z => ?_, fun _ p ob hp hd => q.tup sm (rpA_cut r1 lo hi) hp hd⟩
    have hp := hx.rp (by intro _ z; cases z) (by intro _ z; cases z)
    subst ev
    refine q.same sm ?_
    rename_i ds
    have : cutD ds lo hi = ds := by
      unfold cutD
      rw [← r1.length, z.1, z.2, List.drop_zero, Nat.sub_zero, r1.length, List.take_length]
    rw [this]; exact hp
  · split at e
    case isFalse => cases e
    case isTrue hz =>
      cases e
      exact sl_str pins s σ H x v vl vu lo hi sl Q I rx hs pl pu ⟨_, hx.str, hz, q.same sm (.str _)⟩
  · cases e
end
theorem sem_ix {g : G2} {fa fb : M Rs} : ∀ σ H Q, tSem K (dOp2 g fa fb) σ H Q → tOp (rG K g) (tSem K fa) (tSem K fb) σ H Q := sem_op2 op2G
/-- a part of a slice -/
def tSemO (K : KW) (f : M (Option Int)) : TO := fun σ H Q => ∃ F ρ r ρ', Sta K F H σ ρ ∧ f ρ = .ok r ρ' ∧ ∀ F' H', Ext K F H σ ρ F' H' σ ρ' → Q r H'
def dNoP : M (Option Int) := pr none
def dPart (f : M Rs) : M (Option Int) := bd f fun r => bd (look r) fun d => opt (match d with
  | .int i => some (some i)
  | _ => none)
theorem poWeak {X : Cx} {e : Option Expr} {t t' : TO} (h : PO X e t) (w : ∀ σ H Q, t' σ H Q → t σ H Q) : PO X e t' :=
  ⟨fun pins s σ H Q I q => h.run pins s σ H Q I (w σ H Q q)⟩
def dSl (fa : M Rs) (fl fh : M (Option Int)) : M Rs := bd fa fun ra => bd fl fun l => bd fh fun h => bd (look ra) fun d => opt (gSl d l h)
theorem sem_sl {fa : M Rs} {fl fh : M (Option Int)} : ∀ σ H Q, tSem K (dSl fa fl fh) σ H Q → tSl (fun x lo hi H Q => ∃ F dx res, Same F H ∧ Vw K F H x dx ∧ gSl dx lo hi = some res ∧ NewR K F H res Q) (tSem K fa) (tSemO K fl) (tSemO K fh) σ H Q := fun σ H Q ⟨F, ρ, res, ρ', s, e, k⟩ => by
  obtain ⟨ra, ρ1, e1, e⟩ := bd_ok e
  obtain ⟨l, ρ2, e2, e⟩ := bd_ok e
  obtain ⟨h, ρ3, e3, e⟩ := bd_ok e
  obtain ⟨d, ρ4, e4, e⟩ := bd_ok e
  obtain ⟨eg, e5⟩ := opt_ok e
  refine ⟨F, ρ, ra, ρ1, s, e1, fun F1 H1 x x1 r1 => ⟨F1, ρ1, l, ρ2, x1.st, e2, fun F2 H2 x2 => ⟨F2, ρ2, h, ρ3, x2.st, e3, fun F3 H3 x3 => ?_⟩⟩⟩
  have x23 := x2.trans x3
  obtain ⟨e4', w⟩ := look_ok x3.st (r1.ext x23) e4
  subst e4'; subst e5
  refine ⟨F3, d, res, x3.st.le, w, eg, fun F4 H4 v g hr => ?_⟩
  have y := x1.trans x23
  exact k F4 H4 v (y.trans (x3.st.grow g)) (x3.st.res g hr fun a z => y.back z)
section
variable {X : Cx} {a b : Expr} {fa fb : M Rs} {lo hi : Option Expr} {fl fh : M (Option Int)} {pos p2 : Pos}
theorem eix (hu : X.A.units + 9 < cLine) (ha : PE X a (tSem X.kw fa)) (hb : PE X b (tSem X.kw fb)) (hs : PlainIx b := by exact fun _ _ => rfl) : PE X (.Subscript a b pos) (tSem X.kw (dOp2 gIx fa fb)) := peWeak (pe_ix (oIx hu) ha hb hs) sem_ix
theorem pn : PO X none (tSemO X.kw dNoP) := poWeak po_none fun σ H Q ⟨F, ρ, r, ρ', s, e, k⟩ => by cases e; exact k F H (Ext.refl s)
theorem pp (h : PE X a (tSem X.kw fa)) : PO X (some a) (tSemO X.kw (dPart fa)) := poWeak (po_some h) fun σ H Q ⟨F, ρ, r, ρ', s, e, k⟩ => by
  obtain ⟨ra, ρ1, e1, e⟩ := bd_ok e
  obtain ⟨d, ρ4, e4, e⟩ := bd_ok e
  obtain ⟨eg, e5⟩ := opt_ok e
  refine ⟨F, ρ, ra, ρ1, s, e1, fun F1 H1 x x1 r1 => ?_⟩
  obtain ⟨e4', w⟩ := look_ok x1.st r1 e4
  subst e4'; subst e5
  split at eg
  · cases eg; exact ⟨_, w.int, k F1 H1 x1⟩
  · cases eg
theorem esl (ha : PE X a (tSem X.kw fa)) (hl : PO X lo (tSemO X.kw fl)) (hh : PO X hi (tSemO X.kw fh)) : PE X (.Subscript a (.Slice lo hi none p2) pos) (tSem X.kw (dSl fa fl fh)) := peWeak (pe_slice oSl ha hl hh) sem_sl
end
/-! ### calls of built-ins -/
def gLen : List D → Option Rs
  | [.list ds] => some (.fz (.int ds.length))
  | [.tuple ds] => some (.fz (.int ds.length))
  | [.str z] => if z.length ≤ sizeLine then some (.fz (.int z.length)) else none
  | [.dict kvs] => some (.fz (.int (if isK kvs = true then kvs.length else kvs.length - 1 : Nat)))
  | _ => none
def gAbs : List D → Option Rs
  | [.int i] => some (.fz (.int (if i < 0 then -i else i)))
  | _ => none
def gInt : List D → Option Rs
  | [.int i] => some (.fz (.int i))
  | [.bool k] => some (.fz (.int (if k then 1 else 0)))
  | [.str a] => if a.length ≤ 640 then (intText? a).map fun n => .fz (.int n) else none
  | _ => none
def gStr : List D → Option Rs
  | [.int i] => if i.natAbs.log2 < 1920 then some (.fz (.str (toString i))) else none
  | _ => none
def gTuple : List D → Option Rs
  | [.list ds] => some (.fz (.tuple ds))
  | [.tuple ds] => some (.fz (.tuple ds))
  | _ => none
def gList : List D → Option Rs
  | [.list ds] => some (.ow (.list ds))
  | [.tuple ds] => some (.ow (.list ds))
  | _ => none
def intsOf : List D → Option (List Int)
  | [] => some []
  | .int i :: ds => (intsOf ds).map fun ns => i :: ns
  | _ :: _ => none
theorem intsOf_ok : ∀ {ds : List D} {ns : List Int}, intsOf ds = some ns → ds = ns.map .int
  | [], ns, h => by cases h; rfl
  | d :: ds, ns, h => by
    cases d with
    | int i =>
      obtain ⟨ms, e, rfl⟩ := opt_map (show (intsOf ds).map (fun ns => i :: ns) = some ns from h)
      rw [List.map_cons, intsOf_ok e]
    | _ => cases h
theorem intsOf_map : ∀ ns : List Int, intsOf (ns.map .int) = some ns
  | [] => rfl
  | n :: ns => by rw [List.map_cons]; show (intsOf (ns.map .int)).map _ = _; rw [intsOf_map ns]; rfl
def maxL : List Int → Int
  | [] => 0
  | [a] => a
  | a :: b :: r => max a (maxL (b :: r))
def minL : List Int → Int
  | [] => 0
  | [a] => a
  | a :: b :: r => min a (minL (b :: r))
theorem maxL_spec : ∀ {ns : List Int}, ns ≠ [] → maxL ns ∈ ns ∧ ∀ y ∈ ns, y ≤ maxL ns
  | [], h => absurd rfl h
  | [a], _ => by simp [maxL]
  | a :: b :: r, _ => by
    obtain ⟨h1, h2⟩ := maxL_spec (ns := b :: r) (by simp)
    unfold maxL
    refine ⟨?_, fun y hy => ?_⟩
    · rcases Int.le_total a (maxL (b :: r)) with z | z
      · rw [Int.max_eq_right z]; exact List.mem_cons_of_mem _ h1
      · rw [Int.max_eq_left z]; exact List.mem_cons_self
    · rcases List.mem_cons.mp hy with z | z
      · rw [z]; exact Int.le_max_left _ _
      · exact Int.le_trans (h2 y z) (Int.le_max_right _ _)
def gMax : List D → Option Rs
  | [.int i, .int j] => some (.fz (.int (if j > i then j else i)))
  | [.list ds] => (intsOf ds).bind fun ns => if ns = [] then none else some (.fz (.int (maxL ns)))
  | _ => none
def gMin : List D → Option Rs
  | [.int i, .int j] => some (.fz (.int (if j < i then j else i)))
  | [.list ds] => (intsOf ds).bind fun ns => if ns = [] then none else some (.fz (.int (minL ns)))
  | _ => none
def gSum : List D → Option Rs
  | [.list ds] => (intsOf ds).map fun ns => .fz (.int ns.sum)
  | [.tuple ds] => (intsOf ds).map fun ns => .fz (.int ns.sum)
  | _ => none
def sortOk (ds : List D) : Bool := ds.all (fun d => ds.all fun e => PySem.W.alike d e) && ds.all noD && (ds.all (fun d => match d with
  | .tuple (_ :: _) => true
  | _ => false) || ds.all (fun d => match d with
  | .none => false
  | .tuple _ => false
  | _ => true)) && ds.all (fun d => decide (d.depth ≤ 60)) && decide (ds.length ≤ sizeLine)
def sortD (ds : List D) : List D := ds.mergeSort (PySem.W.dataLe false id)
section
variable {X : Cx}
theorem cLen : CallR X (.builtin "len") (rGN X.kw gLen) := by
  intro pins s σ H xs us Q I r ⟨F, ds, res, sm, hx, e, q⟩
  unfold gLen at e
  split at e
  · cases e
    obtain ⟨x, rfl, hw⟩ := hx.one
    obtain ⟨a, vs, ev, h1, r1⟩ := hw.list sm
    subst ev
    exact call_len_seq pins s σ H _ us Q I r ⟨a, vs, rfl, .inl (.inl h1), q.same sm (by rw [r1.length]; exact .int _)⟩
  · cases e
    obtain ⟨x, rfl, hw⟩ := hx.one
    obtain ⟨a, vs, ev, h1, r1⟩ := hw.tuple sm
    subst ev
    exact call_len_seq pins s σ H _ us Q I r ⟨a, vs, rfl, .inr h1, q.same sm (by rw [r1.length]; exact .int _)⟩
  · split at e
    case isFalse => cases e
    case isTrue hz =>
      cases e
      obtain ⟨x, rfl, hw⟩ := hx.one
      exact call_len_str pins s σ H _ us Q I r ⟨_, by rw [hw.str], hz, q.same sm (.int _)⟩
  · cases e
    obtain ⟨x, rfl, hw⟩ := hx.one
    rename_i ds'
    cases hkk : isK ds' with
    | true =>
      rw [hkk, if_pos rfl] at q
      obtain ⟨a, kvs, ev, h1, r1⟩ := hw.dict sm hkk
      subst ev
      obtain ⟨u, rfl, rx⟩ := vals1 r
      cases rx
      exact d_len I h1 fun t s' I' => ⟨.int kvs.length, H, I', ⟨t, rfl⟩, q.same sm (by rw [r1.length]; exact .int _)⟩
    | false =>
      rw [hkk, if_neg Bool.false_ne_true] at q
      obtain ⟨a, xs, es, ev, h1, r0, r1, rfl⟩ := hw.tdict sm hkk
      subst ev
      obtain ⟨u, rfl, rx⟩ := vals1 r
      cases rx
      obtain ⟨us, pr, dd, hs0, hz⟩ := rawX_get I sm h1 r0
      have hl : us.length = (tagT (xs.map (·.1)) es).length - 1 := by
        rw [← Paired.length pr]
        unfold tagT
        rw [List.length_cons, List.length_zip, List.length_map, List.length_map, ← r1.length, List.length_map]; omega
      refine call_len_dictH hs0 dd (by rw [sizeLine_eq] at hz; omega) ?_
      exact ⟨.int (us.length : Nat), H, I.tok _, ⟨_, rfl⟩, q.same sm (by rw [hl]; exact .int _)⟩
  · cases e
theorem cAbs : CallR X (.builtin "abs") (rGN X.kw gAbs) := by
  intro pins s σ H xs us Q I r ⟨F, ds, res, sm, hx, e, q⟩
  unfold gAbs at e
  split at e
  · cases e
    obtain ⟨x, rfl, hw⟩ := hx.one
    exact call_abs pins s σ H _ us Q I r ⟨_, by rw [hw.int], q.same sm (.int _)⟩
  · cases e
theorem cInt : CallR X (.type "int") (rGN X.kw gInt) := by
  intro pins s σ H xs us Q I r ⟨F, ds, res, sm, hx, e, q⟩
  unfold gInt at e
  split at e
  · cases e
    obtain ⟨x, rfl, hw⟩ := hx.one
    exact call_int1 pins s σ H _ us Q I r (.inl ⟨_, by rw [hw.int], q.same sm (.int _)⟩)
  · cases e
    obtain ⟨x, rfl, hw⟩ := hx.one
    exact call_int1 pins s σ H _ us Q I r (.inr ⟨_, by rw [hw.bool], q.same sm (.int _)⟩)
  · split at e
    case isFalse => cases e
    case isTrue hl =>
      obtain ⟨n, e1, rfl⟩ := opt_map e
      obtain ⟨x, rfl, hw⟩ := hx.one
      exact call_int_str pins s σ H _ us Q I r ⟨_, n, by rw [hw.str], e1, hl, q.same sm (.int _)⟩
  · cases e
theorem cStr : CallR X (.type "str") (rGN X.kw gStr) := by
  intro pins s σ H xs us Q I r ⟨F, ds, res, sm, hx, e, q⟩
  unfold gStr at e
  split at e
  · split at e
    case isFalse => cases e
    case isTrue hl =>
      cases e
      obtain ⟨x, rfl, hw⟩ := hx.one
      exact call_str_int pins s σ H _ us Q I r ⟨_, by rw [hw.int], hl, q.same sm (.str _)⟩
  · cases e
theorem call_tuple_ofD : CallR X (.type "tuple") (fun xs H Q => ∃ p ys, xs = [.ref p] ∧ ((SqL X.K H p ys ∧ ∀ l ob, H l = none → ob.dict = none → Q (.ref l) (upd H l (.frz ob (.tup ys)))) ∨ (SqT X.K H p ys ∧ Q (.ref p) H))) := by
  intro pins s σ H xs us Q I r h
  obtain ⟨p, ys, rfl, h⟩ := h
  obtain ⟨u, rfl, rx⟩ := vals1 r
  cases rx
  rcases h with ⟨hq, q⟩ | ⟨hq, q⟩
  · obtain ⟨its, r', pl, hz⟩ := I.list hq
    have hlen := r'.length
    refine call_tuple_list pl.isList (fun h' kp => ?_) (by simp only [List.size_toArray] <;> omega)
    have I1 : Inv X pins σ H { s with heap := h' } := I.kept (t' := s.toks) kp
    have I2 : Inv X pins σ (upd H h'.objs.size (.frz { cls := .type "tuple", data := .seq its.toArray } (.tup ys))) { s with heap := h'.push { cls := .type "tuple", data := .seq its.toArray } } :=
      I1.laid (t' := s.toks) (fun b o e => Heap.get?_push_of_some _ e) (Nat.le_refl _) ⟨Heap.get?_push_size _ rfl, hz, its, r', IsTup.new _ _⟩
    exact ⟨.ref h'.objs.size, _, I2, rfl, q _ _ (I1.hok.fresh (Nat.le_refl _)) rfl⟩
  · obtain ⟨its, r', pl, hz⟩ := I.tuple hq
    exact call_tuple_same pl ⟨.ref p, H, I, rfl, q⟩
theorem cTuple : CallR X (.type "tuple") (rGN X.kw gTuple) := by
  intro pins s σ H xs us Q I r ⟨F, ds, res, sm, hx, e, q⟩
  unfold gTuple at e
  split at e
  · cases e
    obtain ⟨x, rfl, hw⟩ := hx.one
    obtain ⟨a, vs, ev, h1, r1⟩ := hw.list sm
    subst ev
    exact call_tuple_ofD pins s σ H _ us Q I r ⟨a, vs, rfl, .inl ⟨.inl h1, fun p ob hp hd => q.tup sm r1 hp hd⟩⟩
  · cases e
    obtain ⟨x, rfl, hw⟩ := hx.one
    obtain ⟨a, vs, ev, h1, r1⟩ := hw.tuple sm
    have hp := hw.rp (by intro _ z; cases z) (by intro _ z; cases z)
    subst ev
    exact call_tuple_of pins s σ H _ us Q I r ⟨a, vs, rfl, .inr ⟨h1, q.same sm hp⟩⟩
  · cases e
theorem pos_of {α : Type} {ns : List α} (h : ¬ ns = []) : 0 < ns.length := by
  cases ns with
  | nil => exact absurd rfl h
  | cons a r => simp
theorem cMax (hc : X.calm = true) : CallR X (.builtin "max") (rGN X.kw gMax) := by
  intro pins s σ H xs us Q I r ⟨F, ds, res, sm, hx, e, q⟩
  unfold gMax at e
  split at e
  · cases e
    obtain ⟨x, y, rfl, hw, hv⟩ := hx.two
    exact call_max2 hc pins s σ H _ us Q I r ⟨_, _, by rw [hw.int, hv.int], q.same sm (.int _)⟩
  · obtain ⟨ns, e1, e2⟩ := opt_bind e
    split at e2
    case isTrue => cases e2
    case isFalse hn =>
      cases e2
      obtain ⟨x, rfl, hw⟩ := hx.one
      rw [intsOf_ok e1] at hw
      obtain ⟨a, vs, ev, h1, r1⟩ := hw.list sm
      subst ev
      rw [r1.ints] at h1
      obtain ⟨m1, m2⟩ := maxL_spec hn
      refine cr_max hc pins s σ H _ us Q I r ⟨a, ns, rfl, .inl h1, pos_of hn, fun m hm hle => ?_⟩
      have : m = maxL ns := Int.le_antisymm (m2 m hm) (hle _ m1)
      subst this
      exact q.same sm (.int _)
  · cases e
end
end
end DL
namespace DL
open PySem PySem.Spec PyProof.Rows L2
section
variable {K : KW} {F H F' H' : Hp} {σ σ' : SS} {ρ ρ' : List Sl}
/-! ### sorted -/
theorem rp_back : ∀ {ps : List (V × D)}, (∀ p ∈ ps, Rp K F p.1 p.2) → RpA K F (ps.map (·.1)) (ps.map (·.2))
  | [], _ => .nil
  | p :: ps, h => .cons (h p List.mem_cons_self) (rp_back fun q hq => h q (List.mem_cons_of_mem _ hq))
theorem rp_zip : ∀ {vs : List V} {ds : List D}, RpA K F vs ds → ∀ p ∈ vs.zip ds, Rp K F p.1 p.2
  | _, _, .nil, p, h => by cases h
  | _, _, .cons r t, p, h => by
    rcases List.mem_cons.mp h with z | z
    · rw [z]; exact r
    · exact rp_zip t p z
theorem zip_snd {α β : Type} : ∀ {as : List α} {bs : List β}, as.length = bs.length → (as.zip bs).map (·.2) = bs
  | [], [], _ => rfl
  | [], _ :: _, h => by simp at h
  | _ :: _, [], h => by simp at h
  | a :: as, b :: bs, h => by rw [List.zip_cons_cons, List.map_cons, zip_snd (by simpa using h)]
theorem each_zip {R : Value → V × D → Prop} : ∀ {us : List Value} {vs : List V} {ds : List D}, Vals vs us → vs.length = ds.length → (∀ v u d, RelV v u → (v, d) ∈ vs.zip ds → R u (v, d)) → PySem.W.EachIs R us (vs.zip ds)
  | _, _, [], .nil, _, _ => .nil
  | _, _, _ :: _, .nil, h, _ => by simp at h
  | _, _, [], .cons _ _, h, _ => by simp at h
  | _, _, d :: ds, .cons r t, h, f => by
    rw [List.zip_cons_cons]
    exact .cons (f _ _ d r (by simp)) (each_zip t (by simpa using h) fun v u e r' hm => f v u e r' (List.mem_cons_of_mem _ hm))
theorem vals_each : ∀ {us : List Value} {ps : List (V × D)}, PySem.W.EachIs (fun u p => RelV p.1 u) us ps → Vals (ps.map (·.1)) us
  | _, _, .nil => .nil
  | _, _, .cons r t => .cons r (vals_each t)
theorem sort_maps2 (ps : List (V × D)) : (ps.mergeSort (PySem.W.dataLe false (·.2))).map (·.2) = sortD (ps.map (·.2)) := by
  unfold sortD
  rw [List.map_mergeSort]
  intro a _ b _
  rfl
section
variable {X : Cx}
theorem sorted_seq {pins : List (Addr × Obj)} {s : Shared} {Q : VK} {l : Addr} {its : List Value} {vs : List V} {ds : List D} (hu : X.A.units + 64 < cLine) (I : Inv X pins σ H s) (sm : Same F H) (hl : s.heap.IsList l its.toArray) (rv : Vals vs its) (ra : RpA X.kw F vs ds) (ok : sortOk ds = true)
    (q : NewR X.kw F H (.ow (.list (sortD ds))) Q) : wpAny (model X.prog X.w) X.A (call (.builtin "sorted") [.ref l]) (EP X pins σ Q) X.xe s := by
  unfold sortOk at ok
  simp only [Bool.and_eq_true, Bool.or_eq_true, decide_eq_true_eq, List.all_eq_true] at ok
  obtain ⟨⟨⟨⟨h1, h2⟩, h3⟩, h4⟩, h5⟩ := ok
  have hlen := ra.length
  have snd : (vs.zip ds).map (·.2) = ds := zip_snd hlen
  have mem2 : ∀ p ∈ vs.zip ds, p.2 ∈ ds := fun p hp => by rw [← snd]; exact List.mem_map.mpr ⟨p, hp, rfl⟩
  refine PySem.W.sorted_data (R := fun u p => RelV p.1 u) (enc := (·.2)) (bs := vs.zip ds) hl (each_zip rv hlen fun v u d r _ => r)
    (each_zip rv hlen fun v u d r hm => Dp.reads I d v u ((rp_zip ra _ hm).dp sm (h2 d (mem2 _ hm))) r) ?_ ?_ (by rw [List.length_zip, hlen, Nat.min_self]; exact h5) (fun p hp => ?_) fun out ho he => ?_
  · rw [snd]; exact fun d hd e he => h1 d hd e he
  · rw [snd]
    rcases h3 with h3 | h3
    · refine .inl fun d hd => ?_
      have := h3 d hd
      cases d with
      | tuple xs =>
        cases xs with
        | nil => cases this
        | cons x r => exact ⟨x, r, rfl⟩
      | _ => cases this
    · refine .inr fun d hd => ?_
      have := h3 d hd
      cases d with
      | none => cases this
      | tuple _ => cases this
      | _ => exact ⟨fun z => (nomatch z), fun _ z => (nomatch z)⟩
  · have := h4 p.2 (mem2 p hp)
    omega
  · have va := vals_each he
    obtain ⟨ep, hat⟩ := PyProof.Rows.sortedAll_at s.heap its out.toArray
    have hout : ((vs.zip ds).mergeSort (PySem.W.dataLe false (·.2))).length = ds.length := by
      rw [List.length_mergeSort, List.length_zip, hlen, Nat.min_self]
    refine ⟨.ref (s.heap.objs.size + 1), upd H (s.heap.objs.size + 1) (.lst (((vs.zip ds).mergeSort (PySem.W.dataLe false (·.2))).map (·.1))), I.laid (t' := s.toks) (fun _ _ => PyProof.Rows.sortedAll_old) (Nat.le_succ _) ⟨?_, out, ep, va, hat⟩, rfl, ?_⟩
    · rw [List.length_map, hout]; exact h5
    · rw [← show sortD ((vs.zip ds).map (·.2)) = sortD ds by rw [snd], ← sort_maps2] at q
      exact q.lst sm (rp_back fun p hp => rp_zip ra p ((List.mergeSort_perm _ _).mem_iff.mp hp)) (I.hok.fresh (Nat.le_succ _))
end
/-! ### methods that change what a slot holds -/
def MutOk (K : KW) (r : V → List V → Hp → VK → Prop) (fr : Bool) (g : D → List D → Option (D × D)) : Prop :=
  ∀ (F H : Hp) (a : Addr) (d d' res : D) (ds : List D) (xs : List V) (Q : VK), Same F H → F a = none → Ob K F H a d → (if fr = true then RpA K F xs ds else VwA K F H xs ds) → g d ds = some (d', res) →
    (∀ o' v, Ob K F (upd H a o') a d' → Rp K F v res → Q v (upd H a o')) → r (.ref a) xs H Q
def isLst : D → Bool
  | .list _ => true
  | _ => false
def dMut (i : Nat) (c : D → Bool) (fr : Bool) (g : D → List D → Option (D × D)) (f : M (List Rs)) : M Rs := fun ρ => match ρ[i]? with
  | some (.ow d0) => if c d0 = true then bd f (fun rs => bd (if fr = true then frzA rs else lookA rs) fun ds => fun ρ1 => match ρ1[i]? with
    | some (.ow d) => match g d ds with
      | some (d', res) => .ok (.fz res) (ρ1.set i (.ow d'))
      | none => .bad
    | _ => .bad) ρ else .bad
  | _ => .bad
theorem Ext.updSlot {F₀ H₀ : Hp} {σ₀ : SS} {ρ₀ : List Sl} {i : Nat} {a : Addr} {d d' : D} {o : HO} (x : Ext K F₀ H₀ σ₀ ρ₀ F H σ ρ) (hσ : σ[i]? = some (some (.ref a))) (hρ : ρ[i]? = some (.ow d)) (ho : Ob K F (upd H a o) a d') : Ext K F₀ H₀ σ₀ ρ₀ F (upd H a o) σ (ρ.set i (.ow d')) := by
  have hi : i < ρ.length := (List.getElem?_eq_some_iff.mp hρ).1
  have me : OwAt σ ρ i a := ⟨hσ, d, hρ⟩
  obtain ⟨hf, d0, o0⟩ := x.st.held (.inl me)
  have owB : ∀ j b, OwAt σ (ρ.set i (.ow d')) j b → OwAt σ ρ j b := fun j b ⟨e, d1, q⟩ => by
    by_cases hj : i = j
    · subst hj; exact ⟨e, d, hρ⟩
    · rw [List.getElem?_set_ne hj] at q; exact ⟨e, d1, q⟩
  have lkB : ∀ j b, LkAt σ (ρ.set i (.ow d')) j b → LkAt σ ρ j b := fun j b ⟨e, d1, q⟩ => by
    by_cases hj : i = j
    · subst hj; rw [List.getElem?_set_self hi] at q; cases q
    · rw [List.getElem?_set_ne hj] at q; exact ⟨e, d1, q⟩
  have hdB : ∀ j b, HdAt σ (ρ.set i (.ow d')) j b → HdAt σ ρ j b := fun j b q => q.elim (fun z => .inl (owB j b z)) fun z => .inr (lkB j b z)
  refine ⟨⟨fun b u e => ?_, by rw [List.length_set]; exact x.st.len, fun j s q => ?_, fun j k b h1 h2 => x.st.dj j k b (hdB j b h1) (hdB k b h2)⟩, x.fr, fun b u e n => ?_, x.nf, fun b e => ?_, fun j b q => x.ow j b (owB j b q), fun j b q => x.lk j b (lkB j b q)⟩
  · have hb : b ≠ a := fun z => by subst z; rw [hf] at e; cases e
    rw [upd_ne hb]; exact x.st.le b u e
  · by_cases hj : i = j
    · subst hj
      rw [List.getElem?_set_self hi] at q; cases q
      exact ⟨a, hσ, hf, ho⟩
    · rw [List.getElem?_set_ne hj] at q
      have z := x.st.sl j s q
      cases s with
      | em => trivial
      | fz d => exact z
      | ow d1 =>
        obtain ⟨b, e, nf, ob⟩ := z
        have hb : b ≠ a := fun z => by
          subst z
          exact hj (x.st.dj i j _ (.inl me) (.inl ⟨e, d1, q⟩))
        exact ⟨b, e, nf, ob.mono (Same.refl _) (upd_ne hb)⟩
      | lk d1 =>
        obtain ⟨b, e, nf, ob⟩ := z
        have hb : b ≠ a := fun z => by
          subst z
          exact hj (x.st.dj i j _ (.inl me) (.inr ⟨e, d1, q⟩))
        exact ⟨b, e, nf, ob.mono (Same.refl _) (upd_ne hb)⟩
  · have hb : b ≠ a := fun z => by
      subst z
      rcases x.ow i _ me with y | y
      · exact n i y
      · rw [e] at y; cases y
    rw [upd_ne hb]; exact x.kp b u e n
  · by_cases hb : b = a
    · subst hb; rw [upd_same]; exact fun z => nomatch z
    · rw [upd_ne hb]; exact x.gr b e
theorem sem_mut {T : String} {i : Nat} {c : D → Bool} {fr : Bool} {g : D → List D → Option (D × D)} {f : M (List Rs)} {r : V → List V → Hp → VK → Prop} (hc : ∀ F H a d, c d = true → Ob K F H a d → tyV K T (.ref a) H) (h : MutOk K r fr g) :
    ∀ σ H Q, tSem K (dMut i c fr g f) σ H Q → tBM K T r (tVar i) (tSemA K f) σ H Q := fun σ H Q ⟨F, ρ, res, ρ', s, e, k⟩ => by
  unfold dMut at e
  cases q0 : ρ[i]? with
  | none => rw [q0] at e; cases e
  | some sl =>
    rw [q0] at e
    cases sl with
    | em => cases e
    | fz _ => cases e
    | lk _ => cases e
    | ow d0 =>
      simp only at e
      split at e
      case isFalse => cases e
      case isTrue hc0 =>
        obtain ⟨rs, ρ1, e1, e⟩ := bd_ok e
        obtain ⟨ds, ρ2, e2, e⟩ := bd_ok e
        obtain ⟨a, ea, hf0, ho0⟩ := s.sl i _ q0
        cases q1 : ρ2[i]? with
        | none => rw [q1] at e; cases e
        | some sl2 =>
          rw [q1] at e
          cases sl2 with
          | em => cases e
          | fz _ => cases e
          | lk _ => cases e
          | ow d =>
            simp only at e
            cases eg : g d ds with
            | none => rw [eg] at e; cases e
            | some p =>
              obtain ⟨d', rs'⟩ := p
              rw [eg] at e
              cases e
              refine ⟨.ref a, ea, hc F H a d0 hc0 ho0, F, ρ, rs, ρ1, s, e1, fun F1 H1 xs x1 q2 => ?_⟩
              have main : ∀ F2, Ext K F H σ ρ F2 H1 σ ρ2 → (if fr = true then RpA K F2 xs ds else VwA K F2 H1 xs ds) → r (.ref a) xs H1 Q := fun F2 x2 hv => by
                obtain ⟨b, eb, hf, ho⟩ := x2.st.sl i _ q1
                rw [ea] at eb; cases eb
                refine h F2 H1 a d d' rs' ds xs Q x2.st.le hf ho hv eg fun o' v ho' rv => ?_
                exact k F2 _ v (x2.updSlot ea q1 ho') rv
              cases fr with
              | true =>
                obtain ⟨F2, x2, rp, _⟩ := frzA_ok x1 q2 e2
                exact main F2 x2 rp
              | false =>
                obtain ⟨z, w⟩ := lookA_ok x1.st q2 e2
                subst z
                exact main F1 x1 w
theorem ty_lst : ∀ F H a d, isLst d = true → Ob K F H a d → tyV K "list" (.ref a) H := fun F H a d h o => by
  cases d with
  | list ds => obtain ⟨vs, e, _⟩ := o; exact .inl ⟨rfl, vs, .inl (.inl e)⟩
  | _ => cases h
def gAppend : D → List D → Option (D × D)
  | .list ds, [d] => if ds.length < sizeLine then some (.list (ds ++ [d]), .none) else none
  | _, _ => none
def gExtend : D → List D → Option (D × D)
  | .list ds, [.list es] => if ds.length + es.length ≤ sizeLine then some (.list (ds ++ es), .none) else none
  | _, _ => none
theorem RpA.inv1 {xs : List V} {d : D} (h : RpA K F xs [d]) : ∃ x, xs = [x] ∧ Rp K F x d := by
  cases h with
  | cons h t => cases t; exact ⟨_, rfl, h⟩
theorem m_append : MutOk K rAppend true gAppend := fun F H a d d' res ds xs Q sm hf ho hv eg k => by
  unfold gAppend at eg
  split at eg
  · split at eg
    case isFalse => cases eg
    case isTrue hl =>
      cases eg
      obtain ⟨vs, eo, ra⟩ := ho
      obtain ⟨x, rfl, rx⟩ := RpA.inv1 (show RpA K F xs [_] from hv)
      exact ⟨a, vs, x, rfl, rfl, eo, by rw [ra.length]; exact hl, k _ _ ⟨_, upd_same, ra.app (.one rx)⟩ .non⟩
  · cases eg
section
variable {X : Cx} {o e : Expr} {es : List Expr} {name : Str} {apos cpos : Pos} {T id : String} {r : V → List V → Hp → VK → Prop} {f : M (List Rs)} {i : Nat} {c : D → Bool} {fr : Bool} {g : D → List D → Option (D × D)}
theorem emut (pa : PlainAttrs T) (slot : Slot T name id) (hty : typeOf (.builtin id) = pure (.type "method_descriptor")) (hm : MtR X id r) (hc : ∀ F H a d, c d = true → Ob X.kw F H a d → tyV X.kw T (.ref a) H) (h : MutOk X.kw r fr g) (ho : PE X o (tVar i)) (ha : PA X (e :: es) (tSemA X.kw f))
    (hbase : attributeBase o name X.env (eval o X.env) = eval o X.env := by rfl)
    (hfew : ((backTo cpos (starEach (e :: es) X.env)).all (fun x => !x.1) && (backToKw cpos (keywordEach [] X.env)).all (fun x => x.1.isSome)
      && decide ((e :: es).length + ([] : List Keyword).length + (if ([] : List Keyword).isEmpty then 0 else 1) < 30)) = true := by rfl)
    (hline : (apos.endLine == cpos.line) = true := by rfl) (hs : starEach (e :: es) X.env = (false, eval e X.env) :: starEach es X.env := by rfl) (hplain : (backTo cpos (starEach es X.env)).any (·.1) = false := by rfl) :
    PE X (.Call (.Attribute o name apos) (e :: es) [] cpos) (tSem X.kw (dMut i c fr g f)) := peWeak (pe_bm pa slot hty hm ho ha hbase hfew hline hs hplain) (sem_mut hc h)
end
end
end DL
namespace DL
open PySem PySem.Spec PyProof.Rows L2
section
variable {K : KW} {F H F' H' : Hp} {σ σ' : SS} {ρ ρ' : List Sl}
/-! ### is, in -/
def isB (b : Bool) : D → Bool
  | .bool a => a == b
  | _ => false
def gIs : D → D → Option Bool
  | x, .none => some (isNone x)
  | x, .bool b => some (isB b x)
  | _, _ => none
def gIn : D → D → Option Bool
  | x, .list ds => if SeqAt.shaped x && SeqAt.shaped (.list ds) then some (ds.any fun z => PyData.eqv z x) else none
  | x, .tuple ds => if SeqAt.shaped x && SeqAt.shaped (.tuple ds) then some (ds.any fun z => PyData.eqv z x) else none
  | x, .dict kvs => if isK kvs = true then (keyOf x).map fun k => (dget k kvs).isSome else (tkOf x).map fun k => dhasT k kvs
  | .str x, .str y => some (if x.cps.size = 1 then decide (x.cps.getD 0 0 ∈ y.cps.toList) else !(Builtin.Str.occurrences y x 0 y.length 1).isEmpty)
  | _, _ => none
def gNotIn (x y : D) : Option Bool := (gIn x y).map fun b => !b
theorem rpK_some {k : Key} {kvs : List (Key × V)} {ds : List (D × D)} (r1 : RpK K F kvs ds) : (valV kvs k).isSome = (dget k ds).isSome := by
  obtain ⟨g1, g2⟩ := rpK_get (k := k) r1
  cases z : dget k ds with
  | none => rw [g2 z]; rfl
  | some d => obtain ⟨w, e1, _⟩ := g1 d z; rw [e1]; rfl
theorem isNone_V {v : V} {d : D} (h : Vw K F H v d) : decide (v = .non) = isNone d := by
  rcases h with h | ⟨a, rfl, o⟩
  · cases h <;> rfl
  · cases d with
    | list _ => rfl
    | dict _ => rfl
    | _ => exact o.elim
theorem vw_bool {v : V} {d : D} {b : Bool} {u : Value} (h : Vw K F H v d) (r : RelV v u) : isB b d = (u == Value.bool b) := by
  rcases h with h | ⟨a, rfl, o⟩
  · cases h with
    | non => cases r; rfl
    | bl a =>
      cases (show u = Value.bool a from r)
      by_cases e : a = b
      · subst e; simp [isB]
      · have h1 : (Value.bool a == Value.bool b) = false := beq_eq_false_iff_ne.mpr fun z => e (Value.bool.inj z)
        have h2 : (a == b) = false := beq_eq_false_iff_ne.mpr e
        rw [h1]; exact h2
    | int i => obtain ⟨t, rfl⟩ := r; rfl
    | str x => obtain ⟨t, rfl⟩ := r; rfl
    | lst _ _ => cases r; rfl
    | tup _ _ => cases r; rfl
    | dct _ _ => cases r; rfl
    | tdct _ _ _ => cases r; rfl
  · cases r
    cases d with
    | list _ => rfl
    | dict _ => rfl
    | _ => exact o.elim
theorem notMap {o : Option Bool} {k : Bool} (h : o.map (fun b => !b) = some k) : ∃ b, o = some b ∧ k = !b := by
  cases o with
  | none => cases h
  | some b => cases h; exact ⟨b, rfl, rfl⟩
section
variable {X : Cx}
theorem is_bool {u : Value} {b : Bool} {A : Around} {E : Value → Shared → Prop} {Q : Value → Shared → Prop} {s : Shared} {v : V} (r : RelV v u) (h : Q (.bool (u == Value.bool b)) s) : wpAny (model X.prog X.w) A (compareOp .Is u (.bool b)) Q E s := by
  by_cases e : u = Value.bool b
  · subst e
    exact wpAny_is_self rfl (by simpa using h)
  · have e2 : (u == Value.bool b) = false := beq_eq_false_iff_ne.mpr e
    rw [e2] at h
    refine wpAny_is_other ?_ e h
    cases v with
    | non => cases r; rfl
    | bl a => cases (show u = Value.bool a from r); rfl
    | int i => obtain ⟨t, rfl⟩ := r; rfl
    | str x => obtain ⟨t, rfl⟩ := r; rfl
    | byt x => obtain ⟨t, rfl⟩ := r; rfl
    | flt x => obtain ⟨t, rfl⟩ := r; rfl
    | ref a => cases r; rfl
    | ty n => cases r; rfl
theorem oIs : OpR X (compareOp .Is) (rG X.kw (gB gIs)) := by
  intro pins s σ H x y v u Q I rx ry ⟨F, dx, dy, res, sm, hx, hy, e, q⟩
  obtain ⟨k, e0, rfl⟩ := map_b e
  clear e
  have e := e0
  clear e0
  unfold gIs at e
  split at e
  · cases e
    refine op_isN pins s σ H x y v u Q I rx ry ⟨hy.none, ?_⟩
    rw [isNone_V hx]; exact q.same sm (.bl _)
  · cases e
    rw [hy.bool] at ry
    cases ry
    rw [vw_bool hx rx] at q
    exact is_bool rx ⟨.bl _, H, I, rfl, q.same sm (.bl _)⟩
  · cases e
theorem oIn (hu : X.A.units + 65 < cLine) : OpR X (compareOp .In) (rG X.kw (gB gIn)) := by
  intro pins s σ H x y v u Q I rx ry ⟨F, dx, dy, res, sm, hx, hy, e, q⟩
  obtain ⟨k, e0, rfl⟩ := map_b e
  clear e
  have e := e0
  clear e0
  unfold gIn at e
  split at e
  · split at e
    case isFalse => cases e
    case isTrue h =>
      cases e
      rw [Bool.and_eq_true] at h
      exact op_inD hu pins s σ H x y v u Q I rx ry ⟨_, _, hx.dp sm (noD_shaped h.1), hy.dp sm (noD_shaped h.2), h.1, h.2, q.same sm (.bl _)⟩
  · split at e
    case isFalse => cases e
    case isTrue h =>
      cases e
      rw [Bool.and_eq_true] at h
      obtain ⟨as, r1⟩ := Dp.reads I _ x v (hx.dp sm (noD_shaped h.1)) rx
      obtain ⟨bs, r2⟩ := Dp.reads I _ y u (hy.dp sm (noD_shaped h.2)) ry
      exact SeqAt.in_tuple_reads r2 r1 (SeqAt.canLay_of_shaped h.2) (SeqAt.canLay_of_shaped h.1) (room_in_shaped h.1 hu) ⟨.bl _, H, I, rfl, q.same sm (.bl _)⟩
  · split at e
    case isTrue hkk =>
      obtain ⟨k, ek, rfl⟩ := opt_map e
      obtain ⟨a, kvs, rfl, h1, r1⟩ := hy.dict sm hkk
      have hk := hx.key ek
      subst hk
      cases ry
      refine d_in (o := valV kvs k) (by omega) I (dgetR h1) rx fun s' I' => ⟨.bl _, H, I', rfl, ?_⟩
      rw [rpK_some r1]; exact q.same sm (.bl _)
    case isFalse hkk =>
      obtain ⟨k, ek, rfl⟩ := opt_map e
      obtain ⟨a, xs, es, rfl, h1, r0, r1, rfl⟩ := hy.tdict sm (by simpa using hkk)
      obtain ⟨b, ks, rfl, rfl, hk, rb, his, _⟩ := hx.tkey I sm ek rx
      cases ry
      obtain ⟨us, pr, dd, hsm, _⟩ := rawX_get I sm h1 r0
      refine wpAny_in_heap (knd := nestedKind X.prog X.w) (nk_room (by omega)) his hsm dd ⟨.bl _, H, I.tok _, rfl, ?_⟩
      rw [tag_has hk r1] at q
      rw [← has_val pr]
      exact q.same sm (.bl _)
  · cases e
    rename_i a b
    split at q
    · rename_i h1
      refine op_in_sign pins s σ H x y v u Q I rx ry ⟨a.cps.getD 0 0, b, ?_, hy.str, q.same sm (.bl _)⟩
      rw [hx.str]
      congr 1
      cases a with
      | mk cps =>
        congr 1
        have h1 : cps.size = 1 := h1
        refine Array.ext (by simp [h1]) fun i hi _ => ?_
        have : i = 0 := by omega
        subst this
        simp [Array.getD, h1]
    · exact op_in_str pins s σ H x y v u Q I rx ry ⟨_, _, hx.str, hy.str, q.same sm (.bl _)⟩
  · cases e
theorem oNotIn (hu : X.A.units + 65 < cLine) : OpR X (compareOp .NotIn) (rG X.kw (gB gNotIn)) := by
  intro pins s σ H x y v u Q I rx ry ⟨F, dx, dy, res, sm, hx, hy, e, q⟩
  obtain ⟨k, e0, rfl⟩ := map_b e
  clear e
  obtain ⟨b0, e, rfl⟩ := notMap e0
  clear e0
  unfold gIn at e
  split at e
  · split at e
    case isFalse => cases e
    case isTrue h =>
      cases e
      rw [Bool.and_eq_true] at h
      exact op_notInD hu pins s σ H x y v u Q I rx ry ⟨_, _, hx.dp sm (noD_shaped h.1), hy.dp sm (noD_shaped h.2), h.1, h.2, q.same sm (.bl _)⟩
  · split at e
    case isFalse => cases e
    case isTrue h =>
      cases e
      rw [Bool.and_eq_true] at h
      obtain ⟨as, r1⟩ := Dp.reads I _ x v (hx.dp sm (noD_shaped h.1)) rx
      obtain ⟨bs, r2⟩ := Dp.reads I _ y u (hy.dp sm (noD_shaped h.2)) ry
      exact SeqAt.notIn_tuple_reads r2 r1 (SeqAt.canLay_of_shaped h.2) (SeqAt.canLay_of_shaped h.1) (room_in_shaped h.1 hu) ⟨.bl _, H, I, rfl, q.same sm (.bl _)⟩
  · split at e
    case isTrue hkk =>
      obtain ⟨k, ek, rfl⟩ := opt_map e
      obtain ⟨a, kvs, rfl, h1, r1⟩ := hy.dict sm hkk
      have hk := hx.key ek
      subst hk
      cases ry
      refine d_notIn (o := valV kvs k) (by omega) I (dgetR h1) rx fun s' I' => ⟨.bl _, H, I', rfl, ?_⟩
      rw [rpK_some r1]; exact q.same sm (.bl _)
    case isFalse hkk =>
      obtain ⟨k, ek, rfl⟩ := opt_map e
      obtain ⟨a, xs, es, rfl, h1, r0, r1, rfl⟩ := hy.tdict sm (by simpa using hkk)
      obtain ⟨b, ks, rfl, rfl, hk, rb, his, _⟩ := hx.tkey I sm ek rx
      cases ry
      obtain ⟨us, pr, dd, hsm, _⟩ := rawX_get I sm h1 r0
      refine wpAny_notIn_heap (knd := nestedKind X.prog X.w) (nk_room (by omega)) his hsm dd ⟨.bl _, H, I.tok _, rfl, ?_⟩
      rw [tag_has hk r1] at q
      rw [← has_val pr]
      exact q.same sm (.bl _)
  · cases e
    rename_i a b
    split at q
    · rename_i h1
      refine op_notIn_sign pins s σ H x y v u Q I rx ry ⟨a.cps.getD 0 0, b, ?_, hy.str, q.same sm (.bl _)⟩
      rw [hx.str]
      congr 1
      cases a with
      | mk cps =>
        congr 1
        have h1 : cps.size = 1 := h1
        refine Array.ext (by simp [h1]) fun i hi _ => ?_
        have : i = 0 := by omega
        subst this
        simp [Array.getD, h1]
    · exact op_notIn_str pins s σ H x y v u Q I rx ry ⟨_, _, hx.str, hy.str, q.same sm (.bl _)⟩
  · cases e
end
/-! ### tests -/
def tru : D → Option Bool
  | .none => some false
  | .bool b => some b
  | .int i => some (i != 0)
  | .str x => if x.length ≤ sizeLine then some ((x.length : Int) != 0) else none
  | .list ds => some (!ds.isEmpty)
  | .tuple ds => some (!ds.isEmpty)
  | .dict _ => none
def dTru (f : M Rs) : M Bool := bd f fun r => bd (look r) fun d => opt (tru d)
theorem empty_len {α β : Type} {as : List α} {bs : List β} (h : as.length = bs.length) : (!as.isEmpty) = !bs.isEmpty := by
  cases as <;> cases bs <;> first | rfl | simp at h
theorem tru_ok' {v : V} {d : D} {k : Bool} (s : Same F H) (h : Vw K F H v d) (e : tru d = some k) : TruV K v H k := by
  cases d with
  | none => cases e; rw [h.none]; rfl
  | bool b => cases e; rw [h.bool]; rfl
  | int i => cases e; rw [h.int]; rfl
  | str x =>
    unfold tru at e
    simp only at e
    split at e
    case isFalse => cases e
    case isTrue hl => cases e; rw [h.str]; exact ⟨hl, rfl⟩
  | list ds => cases e; obtain ⟨a, vs, rfl, h1, r⟩ := h.list s; exact .inl ⟨vs, .inl h1, (empty_len r.length).symm⟩
  | tuple ds => cases e; obtain ⟨a, vs, rfl, h1, r⟩ := h.tuple s; exact .inr (.inl ⟨vs, h1, (empty_len r.length).symm⟩)
  | dict ds => cases e
theorem sem_tru {f : M Rs} : ∀ σ H Q, tSemT K (dTru f) σ H Q → tSem K f σ H fun x H' => ∃ k, TruV K x H' k ∧ Q k H' := fun σ H Q ⟨F, ρ, r, ρ', s, e, k⟩ => by
  obtain ⟨ra, ρ1, e1, t1⟩ := bd_ok e
  obtain ⟨d, ρ2, e2, t2⟩ := bd_ok t1
  obtain ⟨e3, e4⟩ := opt_ok t2
  refine ⟨F, ρ, ra, ρ1, s, e1, fun F1 H1 x x1 r1 => ?_⟩
  obtain ⟨z, w⟩ := look_ok x1.st r1 e2
  subst z; subst e4
  exact ⟨r, tru_ok' x1.st.le w e3, k F1 H1 x1⟩
def dNot (c : M Bool) : M Bool := bd c fun b => pr (!b)
def dAnd (a b : M Bool) : M Bool := bd a fun k => if k = true then b else pr false
def dOr (a b : M Bool) : M Bool := bd a fun k => if k = true then pr true else b
/-- .. by values -/
def dAndV (a b : M Rs) : M Rs := bd a fun r => bd (look r) fun d => bd (opt (tru d)) fun k => if k = true then b else bd (frz r) fun d => pr (.fz d)
def dOrV (a b : M Rs) : M Rs := bd a fun r => bd (look r) fun d => bd (opt (tru d)) fun k => if k = true then bd (frz r) (fun d => pr (.fz d)) else b
def dNotV (a : M Rs) : M Rs := bd a fun r => bd (look r) fun d => bd (opt (tru d)) fun k => pr (.fz (.bool (!k)))
def dIfE (c : M Bool) (a b : M Rs) : M Rs := bd c fun k => if k = true then a else b
/-- a <= b <= c -/
def dChain (g g' : D → D → Option Bool) (fa fb fc : M Rs) : M Rs := bd fa fun ra => bd fb fun rb => bd (look ra) fun da => bd (look rb) fun db => bd (opt (g da db)) fun k =>
  if k = true then bd fc fun rc => bd (look rb) fun db => bd (look rc) fun dc => bd (opt (g' db dc)) fun k => pr (.fz (.bool k)) else pr (.fz (.bool false))
def dChainT (g g' : D → D → Option Bool) (fa fb fc : M Rs) : M Bool := bd fa fun ra => bd fb fun rb => bd (look ra) fun da => bd (look rb) fun db => bd (opt (g da db)) fun k =>
  if k = true then bd fc fun rc => bd (look rb) fun db => bd (look rc) fun dc => opt (g' db dc) else pr false
theorem sem_not {c : M Bool} : ∀ σ H Q, tSemT K (dNot c) σ H Q → tNot (tSemT K c) σ H Q := fun σ H Q ⟨F, ρ, r, ρ', s, e, k⟩ => by
  obtain ⟨b, ρ1, e1, t1⟩ := bd_ok e
  obtain ⟨z1, z2⟩ := pr_ok t1
  subst z1; subst z2
  exact ⟨F, ρ, b, _, s, e1, k⟩
theorem sem_and {a b : M Bool} : ∀ σ H Q, tSemT K (dAnd a b) σ H Q → tAnd (tSemT K a) (tSemT K b) σ H Q := fun σ H Q ⟨F, ρ, r, ρ', s, e, k⟩ => by
  obtain ⟨k1, ρ1, e1, t1⟩ := bd_ok e
  refine ⟨F, ρ, k1, ρ1, s, e1, fun F1 H1 x1 => ?_⟩
  cases k1 with
  | true => exact iteT ⟨F1, ρ1, r, ρ', x1.st, t1, fun F2 H2 x2 => k F2 H2 (x1.trans x2)⟩
  | false => cases t1; exact iteF (k F1 H1 x1)
theorem sem_or {a b : M Bool} : ∀ σ H Q, tSemT K (dOr a b) σ H Q → tOr (tSemT K a) (tSemT K b) σ H Q := fun σ H Q ⟨F, ρ, r, ρ', s, e, k⟩ => by
  obtain ⟨k1, ρ1, e1, t1⟩ := bd_ok e
  refine ⟨F, ρ, k1, ρ1, s, e1, fun F1 H1 x1 => ?_⟩
  cases k1 with
  | true => cases t1; exact iteT (k F1 H1 x1)
  | false => exact iteF ⟨F1, ρ1, r, ρ', x1.st, t1, fun F2 H2 x2 => k F2 H2 (x1.trans x2)⟩
theorem sem_andV {a b : M Rs} : ∀ σ H Q, tSem K (dAndV a b) σ H Q → tAndT K (tSem K a) (tSem K b) σ H Q := fun σ H Q ⟨F, ρ, r, ρ', s, e, k⟩ => by
  obtain ⟨r1, ρ1, e1, t1⟩ := bd_ok e
  obtain ⟨d, ρ2, e2, t2⟩ := bd_ok t1
  obtain ⟨k1, ρ3, e3, t3⟩ := bd_ok t2
  obtain ⟨g3, z3⟩ := opt_ok e3
  refine ⟨F, ρ, r1, ρ1, s, e1, fun F1 H1 x x1 q1 => ?_⟩
  obtain ⟨z, w⟩ := look_ok x1.st q1 e2
  subst z; subst z3
  refine ⟨k1, tru_ok' x1.st.le w g3, ?_⟩
  cases k1 with
  | true => exact iteT ⟨F1, _, r, ρ', x1.st, t3, fun F2 H2 v x2 q => k F2 H2 v (x1.trans x2) (q.base fun a z => x1.back z)⟩
  | false =>
    obtain ⟨d', ρ4, e4, t4⟩ := bd_ok t3
    cases t4
    obtain ⟨F2, x2, rp⟩ := frz_ok x1 q1 e4
    exact iteF (k F2 H1 x x2 rp)
theorem sem_orV {a b : M Rs} : ∀ σ H Q, tSem K (dOrV a b) σ H Q → tOrT K (tSem K a) (tSem K b) σ H Q := fun σ H Q ⟨F, ρ, r, ρ', s, e, k⟩ => by
  obtain ⟨r1, ρ1, e1, t1⟩ := bd_ok e
  obtain ⟨d, ρ2, e2, t2⟩ := bd_ok t1
  obtain ⟨k1, ρ3, e3, t3⟩ := bd_ok t2
  obtain ⟨g3, z3⟩ := opt_ok e3
  refine ⟨F, ρ, r1, ρ1, s, e1, fun F1 H1 x x1 q1 => ?_⟩
  obtain ⟨z, w⟩ := look_ok x1.st q1 e2
  subst z; subst z3
  refine ⟨k1, tru_ok' x1.st.le w g3, ?_⟩
  cases k1 with
  | false => exact iteF ⟨F1, _, r, ρ', x1.st, t3, fun F2 H2 v x2 q => k F2 H2 v (x1.trans x2) (q.base fun a z => x1.back z)⟩
  | true =>
    obtain ⟨d', ρ4, e4, t4⟩ := bd_ok t3
    cases t4
    obtain ⟨F2, x2, rp⟩ := frz_ok x1 q1 e4
    exact iteT (k F2 H1 x x2 rp)
theorem sem_notV {a : M Rs} : ∀ σ H Q, tSem K (dNotV a) σ H Q → tNotT K (tSem K a) σ H Q := fun σ H Q ⟨F, ρ, r, ρ', s, e, k⟩ => by
  obtain ⟨r1, ρ1, e1, t1⟩ := bd_ok e
  obtain ⟨d, ρ2, e2, t2⟩ := bd_ok t1
  obtain ⟨k1, ρ3, e3, t3⟩ := bd_ok t2
  obtain ⟨g3, z3⟩ := opt_ok e3
  refine ⟨F, ρ, r1, ρ1, s, e1, fun F1 H1 x x1 q1 => ?_⟩
  obtain ⟨z, w⟩ := look_ok x1.st q1 e2
  subst z; subst z3
  cases t3
  exact ⟨k1, tru_ok' x1.st.le w g3, k F1 H1 _ x1 (.bl _)⟩
section
variable {X : Cx} {a b c : Expr} {rest : List Expr} {pos : Pos} {fa fb fc : M Rs} {ta tb : M Bool}
/-- any expression as a test -/
theorem ttr (ha : PE X a (tSem X.kw fa)) (he : ∀ whole, isTrue a X.env whole = (do let v ← whole; standAt a.pos; holding [v] (truthy v)) := by exact fun _ => rfl) : PT X a (tSemT X.kw (dTru fa)) := ptWeak (pt_truth ha he) sem_tru
theorem tnot (h : PT X a (tSemT X.kw ta)) : PT X (.UnaryOp .Not a pos) (tSemT X.kw (dNot ta)) := ptWeak (pt_not h) sem_not
theorem pwWeak {X : Cx} {e : Expr} {t t' : TT} (h : PW X e t) (w : ∀ σ H Q, t' σ H Q → t σ H Q) : PW X e t' := ⟨fun wh pins s σ H Q I q => h.run wh pins s σ H Q I (w σ H Q q)⟩
theorem wand1 (h : PT X a (tSemT X.kw ta)) : PW X (.BoolOp .And [a] pos) (tSemT X.kw ta) := pw_and1 h
theorem wor1 (h : PT X a (tSemT X.kw ta)) : PW X (.BoolOp .Or [a] pos) (tSemT X.kw ta) := pw_or1 h
theorem wand (h : PT X a (tSemT X.kw ta)) (h2 : PW X (.BoolOp .And (b :: rest) pos) (tSemT X.kw tb)) : PW X (.BoolOp .And (a :: b :: rest) pos) (tSemT X.kw (dAnd ta tb)) := pwWeak (pw_and h h2) sem_and
theorem wor (h : PT X a (tSemT X.kw ta)) (h2 : PW X (.BoolOp .Or (b :: rest) pos) (tSemT X.kw tb)) : PW X (.BoolOp .Or (a :: b :: rest) pos) (tSemT X.kw (dOr ta tb)) := pwWeak (pw_or h h2) sem_or
theorem twp (h : PW X a (tSemT X.kw ta)) : PT X a (tSemT X.kw ta) := h.pt
theorem evone {op} (h : PE X a (tSem X.kw fa)) : PE X (.BoolOp op [a] pos) (tSem X.kw fa) := pe_one h
theorem evand (h : PE X a (tSem X.kw fa)) (h2 : PE X (.BoolOp .And (b :: rest) pos) (tSem X.kw fb)) : PE X (.BoolOp .And (a :: b :: rest) pos) (tSem X.kw (dAndV fa fb)) := peWeak (pe_andT h h2) sem_andV
theorem evor (h : PE X a (tSem X.kw fa)) (h2 : PE X (.BoolOp .Or (b :: rest) pos) (tSem X.kw fb)) : PE X (.BoolOp .Or (a :: b :: rest) pos) (tSem X.kw (dOrV fa fb)) := peWeak (pe_orT h h2) sem_orV
theorem evnot (h : PE X a (tSem X.kw fa)) : PE X (.UnaryOp .Not a pos) (tSem X.kw (dNotV fa)) := peWeak (pe_notT h) sem_notV
end
end
end DL
namespace DL
open PySem PySem.Spec PyProof.Rows L2
section
variable {K : KW} {F H F' H' : Hp} {σ σ' : SS} {ρ ρ' : List Sl}
/-! ### isinstance -/
def tyN : D → String
  | .none => "NoneType"
  | .bool _ => "bool"
  | .int _ => "int"
  | .str _ => "str"
  | .list _ => "list"
  | .tuple _ => "tuple"
  | .dict _ => "dict"
inductive Ty where
  | bool | int | str | list | tuple | dict
def Ty.nm : Ty → String
  | .bool => "bool"
  | .int => "int"
  | .str => "str"
  | .list => "list"
  | .tuple => "tuple"
  | .dict => "dict"
def isT : Ty → D → Bool
  | .bool, .bool _ => true
  | .int, .bool _ => true
  | .int, .int _ => true
  | .str, .str _ => true
  | .list, .list _ => true
  | .tuple, .tuple _ => true
  | .dict, .dict _ => true
  | _, _ => false
theorem kit_isT (T : Ty) (d : D) : PySem.W.kitOne K (.type (tyN d)) (.type T.nm) = some (isT T d) := by
  cases T <;> cases d <;> (refine kit_ty ?_; simp only [tyN, Ty.nm, isT]; decide +kernel)
def okTy : D → Bool
  | .dict ds => isK ds
  | _ => true
theorem Vw.ty {v : V} {d : D} (s : Same F H) (h : Vw K F H v d) (g : okTy d = true) : TyX K H v (.type (tyN d)) := by
  rcases h with h | ⟨a, rfl, o⟩
  · cases h with
    | non => exact .base .non
    | bl b => exact .base (.bl b)
    | int i => exact .base (.int i)
    | str x => exact .base (.str x)
    | lst h r =>
      rcases rd_mono s h with h | ⟨o, h⟩
      · exact .base (.lst h)
      · exact .base (.frz h)
    | tup h r =>
      rcases sqT_mono s h.sq with (h | ⟨o, h⟩) | ⟨o, its, n, h, hc, _⟩
      · exact .base (.tup h)
      · exact .fTuple h
      · exact .kTuple h hc
    | dct h r =>
      rcases rd_mono s h with h | ⟨o, h⟩
      · exact .base (.dK h)
      · exact .fDict h
    | tdct h r r2 => exact absurd g (by simp [okTy, isK_tag])
  · cases d with
    | list ds => obtain ⟨vs, e, r⟩ := o; exact .base (.lst e)
    | dict ds =>
      rcases o with ⟨vs, e, r⟩ | ⟨_, _, _, _, _, rfl⟩
      · exact .base (.dK e)
      · exact absurd g (by simp [okTy, isK_tag])
    | _ => exact o.elim
def isTO (T : Ty) (d : D) : Option Rs := if okTy d = true then some (.fz (.bool (isT T d))) else none
def dIsi (T : Ty) (f : M Rs) : M Rs := bd f fun r => bd (look r) fun d => opt (isTO T d)
theorem sem_isi {T : Ty} {f : M Rs} : ∀ σ H Q, tSem K (dIsi T f) σ H Q → tCB (rIsi K) (tCons (tSem K f) (tCons (tC (.ty T.nm)) tNil)) σ H Q := fun σ H Q ⟨F, ρ, res, ρ', s, e, k⟩ => by
  obtain ⟨ra, ρ1, e1, e⟩ := bd_ok e
  obtain ⟨d, ρ2, e2, e⟩ := bd_ok e
  obtain ⟨eg, e4⟩ := opt_ok e
  unfold isTO at eg
  split at eg
  case isFalse => cases eg
  case isTrue hg =>
  cases eg
  subst e4
  refine ⟨F, ρ, ra, ρ1, s, e1, fun F1 H1 v x1 q1 => ?_⟩
  obtain ⟨z, w⟩ := look_ok x1.st q1 e2
  subst z
  exact ⟨v, .ty T.nm, _, .type T.nm, isT T d, rfl, .ty _, w.ty x1.st.le hg, kit_isT T d, k F1 H1 _ x1 (.bl _)⟩
section
variable {X : Cx} {a : Expr} {f : M Rs} {pos p1 p2 : Pos}
theorem eisi (T : Ty) {x : Str} (hg : Gl X "isinstance") (hm : X.mg "isinstance" = none) (hg2 : Gl X x) (hm2 : X.mg x = none) (hx : bootBuiltins x = some (.type T.nm)) (ha : PE X a (tSem X.kw f)) (hn : x ≠ "__name__" := by decide) (hd : (x == ("__debug__" : Str)) = false := by decide)
    (h0 : starEach [a, .Name x p2] X.env = (false, eval a X.env) :: starEach [.Name x p2] X.env := by rfl) (h1 : starEach [.Name x p2] X.env = (false, eval (.Name x p2) X.env) :: starEach [] X.env := by rfl)
    (hpl : (backTo pos (starEach [.Name x p2] X.env)).any (·.1) = false := by rfl) :
    PE X (.Call (.Name "isinstance" p1) [a, .Name x p2] [] pos) (tSem X.kw (dIsi T f)) :=
  peWeak (pe_callB call_isi hg hm (by rfl) (pa_cons ha (pa_cons (pe_bltn hg2 hm2 hx (v := .ty T.nm) rfl hn hd) pa_nil h1) h0) (by decide) (by decide) h0 hpl) sem_isi
end
/-! ### methods that change nothing -/
def dMe (c : D → Bool) (g : D → List D → Option Rs) (fo : M Rs) (fa : M (List Rs)) : M Rs := bd fo fun ro => bd (look ro) fun d0 => if c d0 = true then bd fa fun rs => bd (look ro) fun d => bd (lookA rs) fun ds => opt (g d ds) else fun _ => .bad
/-! ### o[i] = v, o[i] op= v, name op= v -/
def gGet : D → D → Option D
  | .list ds, .int i => atI ds i
  | .dict kvs, k => if isK kvs = true then (keyOf k).bind fun k => dget k kvs else none
  | _, _ => none
def gPut : D → D → D → Option D
  | .list ds, .int i, d => (ixN ds.length i).map fun j => .list (ds.set j d)
  | .dict kvs, k, d => if isK kvs = true ∧ kvs.length < sizeLine then (keyOf k).map fun k => .dict (dput k d kvs) else none
  | _, _, _ => none
def tgGet (K : KW) : V → V → Hp → VK → Prop := fun o i H Q => ∃ F a d k dr, Same F H ∧ o = .ref a ∧ Ob K F H a d ∧ i = kV k ∧ gGet d (kD k) = some dr ∧ ∀ v, Rp K F v dr → Q v H
def tgPut (K : KW) : TSet := fun o i v H Q => ∃ F a d k dv d', Same F H ∧ F a = none ∧ o = .ref a ∧ Ob K F H a d ∧ i = kV k ∧ Rp K F v dv ∧ gPut d (kD k) dv = some d' ∧ ∀ o', Ob K F (upd H a o') a d' → Q (upd H a o')
section
variable {X : Cx}
theorem keyOf_kD (k : Key) : keyOf (kD k) = some k := by cases k <;> rfl
theorem get_ok (hu : X.A.units + 1 < cLine) : PGet X (tgGet X.kw) := by
  intro pins s σ H o i ov iv Q I ro ri ⟨F, a, d, k, dr, sm, eo, ob, ei, e, q⟩
  subst eo; subst ei
  cases ro
  unfold gGet at e
  split at e
  · rename_i ds j ek
    cases k with
    | inr x => cases ek
    | inl j' =>
      cases ek
      obtain ⟨vs, hl, ra⟩ := ob
      obtain ⟨z, e2, rz⟩ := rpA_atI ra e
      obtain ⟨t, rfl⟩ := ri
      obtain ⟨its, r, pl, hz⟩ := I.list (.inl (.inl hl) : SqL X.kw H a vs)
      obtain ⟨j2, h1, h2, h3, h4, h5⟩ := atI_get e2
      obtain ⟨w, ew, rw'⟩ := r.get h2
      have hl2 := r.length
      have hn := line63
      have fin : EP X pins σ Q w s := ⟨z, H, I, rw', q _ rz⟩
      by_cases h0 : 0 ≤ j
      · have hj : j.toNat = j2 := by
          rw [seqIndex_of h0 h5] at h1
          exact Option.some.inj h1
        exact wpAny_getItem_list pl.isList h0 (by omega) (by rw [hj]; simpa using ew) fin
      · have hj : (j + (its.toArray.size : Int)).toNat = j2 := by
          rw [seqIndex_neg (by omega) h4] at h1
          rw [List.size_toArray, ← hl2]
          exact Option.some.inj h1
        exact wpAny_getItem_list_neg pl.isList (by omega) (by rw [List.size_toArray] <;> omega) (by omega) (by rw [hj]; simpa using ew) fin
  · rename_i kvs
    split at e
    case isFalse => cases e
    case isTrue hkk =>
    rw [keyOf_kD] at e
    obtain ⟨vs, hl, ra⟩ := ob.asK hkk
    obtain ⟨z, e2, rz⟩ := (rpK_get ra).1 dr e
    have g : DGet H a (kV k) (some z) := e2 ▸ DGet.k hl
    exact d_getItem hu I g ri fun w' s3 I3 rw' => ⟨z, H, I3, rw', q _ rz⟩
  · cases e
theorem put_ok (hu : X.A.units + 1 < cLine) : PSet X (tgPut X.kw) := by
  intro pins s σ H o i v ov iv u Q I ro ri rv ⟨F, a, d, k, dv, d', sm, fn, eo, ob, ei, rp, e, q⟩
  subst eo; subst ei
  unfold gPut at e
  split at e
  · rename_i ds j ek
    cases k with
    | inr x => cases ek
    | inl j' =>
      cases ek
      obtain ⟨vs, hl, ra⟩ := ob
      obtain ⟨j2, e2, rfl⟩ := opt_map e
      exact set_list pins s σ H _ _ v ov iv u Q I ro ri rv ⟨a, vs, j, j2, rfl, rfl, hl, by rw [ra.length]; exact e2, q _ ⟨_, upd_same, RpA.set (i := 0) rp j2 ra⟩⟩
  · split at e
    case isFalse => cases e
    case isTrue hlen =>
    rw [keyOf_kD] at e
    cases e
    obtain ⟨vs, hl, ra⟩ := ob.asK hlen.1
    exact set_dict hu pins s σ H _ _ v ov iv u Q I ro ri rv ⟨a, _, rfl, DPut.k hl (by rw [ra.length]; exact hlen.2), q _ (.inl ⟨_, upd_same, rpK_put ra rp⟩)⟩
  · cases e
end
end
end DL
namespace DL
open PySem PySem.Spec PyProof.Rows L2
section
variable {K : KW} {F H F' H' : Hp} {σ σ' : SS} {ρ ρ' : List Sl} {P : Nat → Prop}
/-! ### stores at items -/
def dKey (f : M Rs) : M Key := bd f fun r => bd (look r) fun d => opt (keyOf d)
/-- x[i] = e -/
def dPut (i : Nat) (fi fe : M Rs) : DS := fun ρ => match bd fe frz ρ with
  | .bad => .bad
  | .ok dv ρ1 => match ρ1[i]? with
    | some (.ow _) => match dKey fi ρ1 with
      | .bad => .bad
      | .ok k ρ2 => match ρ2[i]? with
        | some (.ow d) => match gPut d (kD k) dv with
          | some d' => .nx (ρ2.set i (.ow d'))
          | none => .bad
        | _ => .bad
    | _ => .bad
/-- x[i] op= e -/
def dAugS (g : G2) (i : Nat) (fi fe : M Rs) : DS := fun ρ => match ρ[i]? with
  | some (.ow _) => match dKey fi ρ with
    | .bad => .bad
    | .ok k ρ1 => match ρ1[i]? with
      | some (.ow d1) => match gGet d1 (kD k) with
        | none => .bad
        | some old => match bd fe look ρ1 with
          | .bad => .bad
          | .ok dv ρ2 => match g old dv with
            | some (.fz dn) => match ρ2[i]? with
              | some (.ow d2) => match gPut d2 (kD k) dn with
                | some d' => .nx (ρ2.set i (.ow d'))
                | none => .bad
              | _ => .bad
            | _ => .bad
      | _ => .bad
  | _ => .bad
/-- x op= e -/
def dAug (g : G2) (i : Nat) (fe : M Rs) : DS := fun ρ => match ρ[i]? with
  | some (.fz d) => match bd fe look ρ with
    | .bad => .bad
    | .ok dv ρ1 => match g d dv with
      | some (.fz dn) => if i < ρ1.length then .nx (ρ1.set i (.fz dn)) else .bad
      | _ => .bad
  | _ => .bad
theorem key_ok {f : M Rs} {k : Key} (h : dKey f ρ = .ok k ρ') (s : Sta K F H σ ρ) : ∃ r ρ1, f ρ = .ok r ρ1 ∧ ∀ F' H' v, Sta K F' H' σ ρ1 → RsR K H F' H' σ ρ1 v r → ρ' = ρ1 ∧ v = kV k := by
  obtain ⟨r, ρ1, e1, e⟩ := bd_ok h
  obtain ⟨d, ρ2, e2, e⟩ := bd_ok e
  obtain ⟨e3, e4⟩ := opt_ok e
  refine ⟨r, ρ1, e1, fun F' H' v s' q => ?_⟩
  obtain ⟨z, w⟩ := look_ok s' q e2
  subst z
  exact ⟨e4.symm ▸ rfl, w.key e3⟩
theorem sem_augS {g : G2} {i : Nat} {fi fe : M Rs} : ∀ D σ H, tSemS K P (dAugS g i fi fe) D σ H → tAugS (tVar i) (tSem K fi) (tSem K fe) (tgGet K) (rG K g) (tgPut K) D σ H := fun D σ H ⟨F, ρ, s, h⟩ => by
  unfold dAugS at h
  cases q0 : ρ[i]? with
  | none => simp only [q0] at h; exact h.elim
  | some sl =>
    cases sl with
    | em => simp only [q0] at h; exact h.elim
    | fz _ => simp only [q0] at h; exact h.elim
    | lk _ => simp only [q0] at h; exact h.elim
    | ow d0 =>
      simp only [q0] at h
      cases ek : dKey fi ρ with
      | bad => simp only [ek] at h; exact h.elim
      | ok k ρ1 =>
        simp only [ek] at h
        cases q1 : ρ1[i]? with
        | none => simp only [q1] at h; exact h.elim
        | some sl2 =>
          cases sl2 with
          | em => simp only [q1] at h; exact h.elim
          | fz _ => simp only [q1] at h; exact h.elim
          | lk _ => simp only [q1] at h; exact h.elim
          | ow d1 =>
            simp only [q1] at h
            cases eg : gGet d1 (kD k) with
            | none => simp only [eg] at h; exact h.elim
            | some old =>
              simp only [eg] at h
              cases ev : bd fe look ρ1 with
              | bad => simp only [ev] at h; exact h.elim
              | ok dv ρ2 =>
                simp only [ev] at h
                obtain ⟨r, ρ0, e1, e2⟩ := bd_ok ev
                cases eo : g old dv with
                | none => simp only [eo] at h; exact h.elim
                | some rs =>
                  cases rs with
                  | ow _ => simp only [eo] at h; exact h.elim
                  | nm _ => simp only [eo] at h; exact h.elim
                  | fz dn =>
                    simp only [eo] at h
                    cases q2 : ρ2[i]? with
                    | none => simp only [q2] at h; exact h.elim
                    | some sl3 =>
                      cases sl3 with
                      | em => simp only [q2] at h; exact h.elim
                      | fz _ => simp only [q2] at h; exact h.elim
                      | lk _ => simp only [q2] at h; exact h.elim
                      | ow d2 =>
                        simp only [q2] at h
                        cases ep : gPut d2 (kD k) dn with
                        | none => simp only [ep] at h; exact h.elim
                        | some d' =>
                          simp only [ep] at h
                          obtain ⟨a, ea, _, _⟩ := s.sl i _ q0
                          obtain ⟨rk, ρ3, e3, hk⟩ := key_ok ek s
                          refine ⟨.ref a, ea, F, ρ, rk, ρ3, s, e3, fun F1 H1 w x1 q3 => ?_⟩
                          obtain ⟨z, ew⟩ := hk F1 H1 w x1.st q3
                          subst z; subst ew
                          obtain ⟨b, eb, hf, ho⟩ := x1.st.sl i _ q1
                          rw [ea] at eb; cases eb
                          refine ⟨F1, a, d1, k, old, x1.st.le, rfl, ho, rfl, eg, fun x rx => ⟨F1, ρ1, r, ρ0, x1.st, e1, fun F2 H2 y x2 ry => ?_⟩⟩
                          obtain ⟨z, wy⟩ := look_ok x2.st ry e2
                          subst z
                          refine ⟨F2, old, dv, .fz dn, x2.st.le, .inl (rx.mono x2.fr), wy, eo, fun F3 H3 nv gr hr => ?_⟩
                          have x3 := x2.st.grow gr
                          have xx := (x1.trans x2).trans x3
                          obtain ⟨b, eb, hf3, ho3⟩ := xx.st.sl i _ q2
                          rw [ea] at eb; cases eb
                          exact ⟨F3, a, d2, k, dn, d', xx.st.le, hf3, rfl, ho3, rfl, hr, ep, fun o' ob => h F3 _ σ (xx.updSlot ea q2 ob) Prot.refl⟩
theorem sem_aug {g : G2} {i : Nat} {fe : M Rs} (hP : ¬ P i) : ∀ D σ H, tSemS K P (dAug g i fe) D σ H → tAug i (tSem K fe) (rG K g) D σ H := fun D σ H ⟨F, ρ, s, h⟩ => by
  unfold dAug at h
  cases q0 : ρ[i]? with
  | none => simp only [q0] at h; exact h.elim
  | some sl =>
    cases sl with
    | em => simp only [q0] at h; exact h.elim
    | ow _ => simp only [q0] at h; exact h.elim
    | lk _ => simp only [q0] at h; exact h.elim
    | fz d =>
      simp only [q0] at h
      cases ev : bd fe look ρ with
      | bad => simp only [ev] at h; exact h.elim
      | ok dv ρ1 =>
        simp only [ev] at h
        obtain ⟨r, ρ0, e1, e2⟩ := bd_ok ev
        cases eo : g d dv with
        | none => simp only [eo] at h; exact h.elim
        | some rs =>
          cases rs with
          | ow _ => simp only [eo] at h; exact h.elim
          | nm _ => simp only [eo] at h; exact h.elim
          | fz dn =>
            simp only [eo] at h
            split at h
            case isFalse => exact h.elim
            case isTrue hi =>
            obtain ⟨x, ex, rx⟩ := s.sl i _ q0
            refine ⟨x, ex, F, ρ, r, ρ0, s, e1, fun F1 H1 y x1 ry => ?_⟩
            obtain ⟨z, wy⟩ := look_ok x1.st ry e2
            subst z
            refine ⟨F1, d, dv, .fz dn, x1.st.le, .inl (rx.mono x1.fr), wy, eo, fun F2 H2 nv gr hr => ?_⟩
            exact h F2 H2 _ ((x1.trans (x1.st.grow gr)).setSlot hi (.inl ⟨dn, rfl, hr⟩)) (prot_set hP)
def gIAdd : G2
  | .int i, .int j => some (.fz (.int (i + j)))
  | .str i, .str j => if i.length + j.length ≤ sizeLine then some (.fz (.str (i ++ j))) else none
  | _, _ => none
def gISub : G2
  | .int i, .int j => some (.fz (.int (i - j)))
  | _, _ => none
section
variable {X : Cx} {o e ie : Expr} {fi fe : M Rs} {pos tpos : Pos} {i : Nat}
theorem pAdd : PIp X .Add (rG X.kw gIAdd) := by
  intro pins s σ H x y v u Q I rx ry ⟨F, dx, dy, res, sm, hx, hy, e, q⟩
  unfold gIAdd at e
  split at e
  · cases e
    exact ip_add pins s σ H x y v u Q I rx ry ⟨_, _, hx.int, hy.int, q.same sm (.int _)⟩
  · split at e
    case isFalse => cases e
    case isTrue hl => cases e; exact iop_add_str pins s σ H x y v u Q I rx ry ⟨_, _, hx.str, hy.str, hl, q.same sm (.str _)⟩
  · cases e
theorem saugs {op : Operator} {g : G2} (hu : X.A.units + 1 < cLine) (hp : PIp X op (rG X.kw g)) (ho : PE X o (tVar i)) (hi : PE X ie (tSem X.kw fi)) (he : PE X e (tSem X.kw fe))
    (ha : ∀ ov iv new, augStore ie ov iv new = (do holding [new, ov, iv] (setItem ov iv new); release [new, ov, iv] []; pure .next) := by intros; rfl) : PS X (.AugAssign (.Subscript o ie tpos) op e pos) (tSemS X.kw P (dAugS g i fi fe)) :=
  psWeak (ps_augS ho hi (get_ok hu) he hp (put_ok hu) ha) sem_augS
theorem saug {op : Operator} {g : G2} {x : Str} {pos' : Pos} (hP : ¬ P i) (hp : PIp X op (rG X.kw g)) (hN : X.N.Nodup) (hi : X.N[i]? = some x) (hx : Loc X.env.scope x) (he : PE X e (tSem X.kw fe)) (hf : X.fn x = true ∨ X.env.scope.names.lookup x = some .local := by first | exact .inl rfl | exact .inr rfl | assumption) :
    PS X (.AugAssign (.Name x pos') op e pos) (tSemS X.kw P (dAug g i fe)) := psWeak (ps_aug hN hi hx he hp hf) (sem_aug hP)
end
/-! ### dicts laid -/
theorem Ext.updNew {F₀ H₀ : Hp} {σ₀ : SS} {ρ₀ : List Sl} {a : Addr} {o : HO} (x : Ext K F₀ H₀ σ₀ ρ₀ F H σ ρ) (h0 : H₀ a = none) (hf : F a = none) (hn : ∀ i, ¬ HdAt σ ρ i a) : Ext K F₀ H₀ σ₀ ρ₀ F (upd H a o) σ ρ := by
  refine ⟨⟨fun b u e => ?_, x.st.len, fun j s q => ?_, x.st.dj⟩, x.fr, fun b u e n => ?_, x.nf, fun b e => ?_, x.ow, x.lk⟩
  · have hb : b ≠ a := fun z => by subst z; rw [hf] at e; cases e
    rw [upd_ne hb]; exact x.st.le b u e
  · have z := x.st.sl j s q
    cases s with
    | em => trivial
    | fz d => exact z
    | ow d =>
      obtain ⟨b, e1, e2, e3⟩ := z
      have hb : b ≠ a := fun z => by subst z; exact hn j (.inl ⟨e1, d, q⟩)
      exact ⟨b, e1, e2, e3.mono (Same.refl _) (upd_ne hb)⟩
    | lk d =>
      obtain ⟨b, e1, e2, e3⟩ := z
      have hb : b ≠ a := fun z => by subst z; exact hn j (.inr ⟨e1, d, q⟩)
      exact ⟨b, e1, e2, e3.mono (Same.refl _) (upd_ne hb)⟩
  · have hb : b ≠ a := fun z => by subst z; rw [h0] at e; cases e
    rw [upd_ne hb]; exact x.kp b u e n
  · by_cases hb : b = a
    · subst hb; rw [upd_same]; exact fun z => nomatch z
    · rw [upd_ne hb]; exact x.gr b e
def dPairs : List (M Rs × M Rs) → M (List (Key × Rs))
  | [] => pr []
  | p :: ps => bd (dKey p.1) fun k => bd p.2 fun r => bd (dPairs ps) fun rs => pr ((k, r) :: rs)
def dDisp (ps : List (M Rs × M Rs)) : M Rs := bd (dPairs ps) fun krs => bd (frzA (krs.map (·.2))) fun ds => if krs.length ≤ 15 then pr (.ow (.dict ((List.zip (krs.map (·.1)) ds).foldl (fun acc kv => dput kv.1 kv.2 acc) []))) else fun _ => .bad
theorem RsA.cons {H₀ : Hp} {v : V} {r : Rs} {vs : List V} {rs : List Rs} {F1 H1 : Hp} {ρ1 : List Sl} (q1 : RsR K H₀ F1 H1 σ ρ1 v r) (x2 : Ext K F1 H1 σ ρ1 F H σ ρ) (q2 : RsA K H1 F H σ ρ vs rs) (b : ∀ a, H1 a = none → H₀ a = none) : RsA K H₀ F H σ ρ (v :: vs) (r :: rs) := by
  refine ⟨by rw [List.length_cons, List.length_cons, q2.len], fun i w r' h1 h2 => ?_, fun i j a d e h1 h2 h3 h4 => ?_⟩
  · cases i with
    | zero => simp at h1 h2; subst h1; subst h2; exact q1.ext x2
    | succ i => exact (q2.at_ i w r' (by simpa using h1) (by simpa using h2)).base b
  · have cross : ∀ (j : Nat) (a : Addr) (d e : D), v = .ref a → r = .ow d → vs[j]? = some (.ref a) → rs[j]? = some (.ow e) → False := fun j' a' d' e' g1 g2 g3 g4 => by
      rw [g2] at q1
      obtain ⟨b, eb, _, _, ob, _⟩ := q1
      obtain ⟨c, ec, hc, _⟩ := q2.at_ j' _ _ g3 g4
      rw [g1] at eb
      cases eb
      cases ec
      exact ob.ne hc
    cases i with
    | zero =>
      cases j with
      | zero => rfl
      | succ j => simp at h1 h2; exact (cross j a d e h1 h2 (by simpa using h3) (by simpa using h4)).elim
    | succ i =>
      cases j with
      | zero => simp at h3 h4; exact (cross i a e d h3 h4 (by simpa using h1) (by simpa using h2)).elim
      | succ j => rw [q2.dj i j a d e (by simpa using h1) (by simpa using h2) (by simpa using h3) (by simpa using h4)]
theorem sem_pairs : ∀ {ps : List (M Rs × M Rs)} {F H : Hp} {ρ ρ' : List Sl} {krs : List (Key × Rs)} {Q : List (V × V) → Hp → Prop}, Sta K F H σ ρ → dPairs ps ρ = .ok krs ρ' →
    (∀ F' H' vs, Ext K F H σ ρ F' H' σ ρ' → RsA K H F' H' σ ρ' vs (krs.map (·.2)) → Q (List.zip (krs.map fun p => kV p.1) vs) H') → tPairs (ps.map fun p => (tSem K p.1, tSem K p.2)) σ H Q
  | [], F, H, ρ, ρ', krs, Q, s, e, k => by
    cases e
    exact k F H [] (Ext.refl s) ⟨rfl, fun i v r h => by simp at h, fun i j a d e h => by simp at h⟩
  | p :: ps, F, H, ρ, ρ', krs, Q, s, e, k => by
    obtain ⟨kk, ρ1, e1, e⟩ := bd_ok e
    obtain ⟨r, ρ2, e2, e⟩ := bd_ok e
    obtain ⟨rs, ρ3, e3, e⟩ := bd_ok e
    obtain ⟨e4, e5⟩ := pr_ok e
    subst e4; subst e5
    obtain ⟨rk, ρ4, e6, hk⟩ := key_ok e1 s
    refine ⟨F, ρ, rk, ρ4, s, e6, fun F1 H1 w x1 q1 => ?_⟩
    obtain ⟨z, ew⟩ := hk F1 H1 w x1.st q1
    subst z; subst ew
    refine ⟨F1, ρ1, r, ρ2, x1.st, e2, fun F2 H2 y x2 q2 => sem_pairs x2.st e3 fun F3 H3 vs x3 q3 => ?_⟩
    exact k F3 H3 (y :: vs) ((x1.trans x2).trans x3) (RsA.cons (q2.base fun a z => x1.back z) x3 q3 fun a z => (x1.trans x2).back z)
theorem fold_put {kvs : List (Key × V)} {ds : List (Key × D)} (h : Paired (fun p q => p.1 = q.1 ∧ Rp K F p.2 q.2) kvs ds) : ∀ {acc : List (Key × V)} {dac : List (D × D)}, RpK K F acc dac → RpK K F (kvs.foldl (fun acc kv => putK acc kv.1 kv.2) acc) (ds.foldl (fun acc kv => dput kv.1 kv.2 acc) dac) := by
  induction h with
  | nil => intro _ _ h; exact h
  | cons a b ih =>
    intro acc dac q
    obtain ⟨a1, a2⟩ := a
    refine ih ?_
    show RpK K F (putK acc _ _) (dput _ _ dac)
    rw [← a1]
    exact rpK_put q a2
theorem zip_pair : ∀ {ks : List Key} {vs : List V} {ds : List D}, RpA K F vs ds → Paired (fun (p : Key × V) (q : Key × D) => p.1 = q.1 ∧ Rp K F p.2 q.2) (ks.zip vs) (ks.zip ds)
  | [], _, _, _ => .nil
  | _ :: _, _, _, .nil => .nil
  | k :: ks, _, _, .cons r t => .cons ⟨rfl, r⟩ (zip_pair t)
theorem zip_kV : ∀ (krs : List (Key × Rs)) (vs : List V), List.zip (krs.map fun p => kV p.1) vs = (List.zip (krs.map (·.1)) vs).map fun kv => (kV kv.1, kv.2)
  | [], _ => rfl
  | _ :: _, [] => rfl
  | p :: r, v :: vs => by
    rw [List.map_cons, List.map_cons, List.zip_cons_cons, List.zip_cons_cons, List.map_cons, zip_kV r vs]
theorem sem_disp {ps : List (M Rs × M Rs)} : ∀ σ H Q, tSem K (dDisp ps) σ H Q → tDisp (ps.map fun p => (tSem K p.1, tSem K p.2)) σ H Q := fun σ H Q ⟨F, ρ, res, ρ', s, e, k⟩ p hp => by
  obtain ⟨krs, ρ1, e1, e⟩ := bd_ok e
  obtain ⟨ds, ρ2, e2, e⟩ := bd_ok e
  split at e
  case isFalse => cases e
  case isTrue h15 =>
  obtain ⟨e3, e4⟩ := pr_ok e
  subst e3; subst e4
  have fp : F p = none := s.le.free hp
  have x0 : Ext K F H σ ρ F (upd H p (.dK [])) σ ρ := s.grow ⟨Same.refl _, s.le.trans (same_upd hp), same_upd hp, fun _ _ e => e⟩
  refine sem_pairs x0.st e1 fun F1 H1 vs x1 q1 => ?_
  have nh : ∀ i, ¬ HdAt σ ρ i p := fun i z => by
    obtain ⟨_, d, o⟩ := s.held z
    exact o.ne hp
  have hp1 : H1 p = some (.dK []) := x1.kp p _ upd_same fun i z => nh i (.inl z)
  obtain ⟨F2, x2, rpa, sm2⟩ := frzA_ok x1 q1 e2
  have xx := x0.trans x2
  have fp2 : F2 p = none := x2.nf p (by rw [upd_same]; exact fun z => nomatch z) nh fp
  have nh2 : ∀ i, ¬ HdAt σ ρ' i p := fun i z => by
    rcases x2.hd z with y | y
    · exact nh i y
    · rw [upd_same] at y; cases y
  refine ⟨hp1, List.zip (krs.map (·.1)) vs, zip_kV krs vs, ?_, ?_⟩
  · rw [List.length_zip, List.length_map]; omega
  · refine k F2 _ _ (xx.updNew hp fp2 nh2) ⟨p, rfl, hp, fp2, .inl ⟨_, upd_same, ?_⟩, nh2⟩
    exact fold_put (zip_pair rpa) .nil
def dNew : M Rs := pr (.ow (.dict []))
section
variable {X : Cx} {pos : Pos}
theorem edi {keys : List (Option Expr)} {values : List Expr} {ps : List (M Rs × M Rs)} (h : PPs X pos keys values (ps.map fun p => (tSem X.kw p.1, tSem X.kw p.2))) (hall : keys.all (·.isSome) = true := by rfl) (hl : keys.length = values.length := by rfl) (h0 : keys ≠ [] := by exact fun z => nomatch z)
    (h15 : keys.length ≤ 15 := by decide) : PE X (.Dict keys values pos) (tSem X.kw (dDisp ps)) := peWeak (pe_disp h hall hl h0 h15) sem_disp
end
end
end DL
namespace DL
open PySem PySem.Spec PyProof.Rows L2
theorem u1 {k : Nat} {A : Around} (r : Room k A) : A.units + 1 < cLine := by have := r.un; omega
theorem u9 {k : Nat} {A : Around} (r : Room k A) : A.units + 9 < cLine := by have := r.un; omega
theorem u64 {k : Nat} {A : Around} (r : Room k A) : A.units + 64 < cLine := by have := r.un; omega
theorem u65 {k : Nat} {A : Around} (r : Room k A) : A.units + 65 < cLine := by have := r.un; omega
end DL
/-! DL15: reckoning with the combinators on plain data, no program in sight -/
namespace DL
open PySem L2
/-- what simp is not to go into -/
inductive Tag {α : Type} (a : α) : Type where
  | mk
def vR {α : Type} (r : R α) (Q : α → List Sl → Prop) : Prop := match r with
  | .ok a ρ => Q a ρ
  | .bad => False
def vM {α : Type} (m : M α) (ρ : List Sl) (Q : α → List Sl → Prop) : Prop := vR (m ρ) Q
def vO {α : Type} (o : Option α) (Q : α → Prop) : Prop := match o with
  | some a => Q a
  | none => False
def vS (s : DS) (ρ : List Sl) (N : List Sl → Prop) (T : Rs → List Sl → Prop) (B C : List Sl → Prop) : Prop := match s ρ with
  | .nx ρ' => N ρ'
  | .rt r ρ' => T r ρ'
  | .bk ρ' => B ρ'
  | .ct ρ' => C ρ'
  | .bad => False
def nope {α : Type} : α → Prop := fun _ => False
theorem vM_iff {α : Type} {m : M α} {ρ : List Sl} {Q : α → List Sl → Prop} : vM m ρ Q ↔ ∃ a ρ', m ρ = .ok a ρ' ∧ Q a ρ' := by
  unfold vM vR
  constructor
  · intro h
    cases e : m ρ with
    | ok a ρ' => rw [e] at h; exact ⟨a, ρ', rfl, h⟩
    | bad => rw [e] at h; exact h.elim
  · rintro ⟨a, ρ', e, h⟩; rw [e]; exact h
theorem vM_eq {α : Type} {m : M α} {ρ ρ' : List Sl} {a : α} (h : vM m ρ fun b ρ1 => b = a ∧ ρ1 = ρ') : m ρ = .ok a ρ' := by
  obtain ⟨b, ρ1, e, rfl, rfl⟩ := vM_iff.mp h; exact e
theorem vM_mono {α : Type} {m : M α} {ρ : List Sl} {Q Q' : α → List Sl → Prop} (h : vM m ρ Q) (i : ∀ a ρ', Q a ρ' → Q' a ρ') : vM m ρ Q' := by
  obtain ⟨a, ρ', e, h⟩ := vM_iff.mp h; exact vM_iff.mpr ⟨a, ρ', e, i _ _ h⟩
theorem vS_mono {s : DS} {ρ : List Sl} {N N' : List Sl → Prop} {T T' : Rs → List Sl → Prop} {B B' C C' : List Sl → Prop} (h : vS s ρ N T B C) (n : ∀ ρ, N ρ → N' ρ) (t : ∀ r ρ, T r ρ → T' r ρ) (b : ∀ ρ, B ρ → B' ρ) (c : ∀ ρ, C ρ → C' ρ) : vS s ρ N' T' B' C' := by
  unfold vS at h ⊢
  cases e : s ρ <;> rw [e] at h
  · exact n _ h
  · exact t _ _ h
  · exact b _ h
  · exact c _ h
  · exact h
section
variable {α β : Type} {ρ : List Sl} {N : List Sl → Prop} {T : Rs → List Sl → Prop} {B C : List Sl → Prop}
theorem vM_bd {m : M α} {k : α → M β} {Q : β → List Sl → Prop} : vM (bd m k) ρ Q = vM m ρ fun a ρ1 => vM (k a) ρ1 Q := by
  unfold vM bd
  cases m ρ <;> rfl
theorem vM_pr {a : α} {Q : α → List Sl → Prop} : vM (pr a) ρ Q = Q a ρ := rfl
theorem vM_opt {o : Option α} {Q : α → List Sl → Prop} : vM (opt o) ρ Q = vO o fun a => Q a ρ := by cases o <;> rfl
theorem vO_some {a : α} {Q : α → Prop} : vO (some a) Q = Q a := rfl
theorem vM_C {d : D} {Q : Rs → List Sl → Prop} : vM (dC d) ρ Q = Q (.fz d) ρ := rfl
def varK (o : Option Sl) (i : Nat) (ρ : List Sl) (Q : Rs → List Sl → Prop) (_ : Tag Q := .mk) : Prop := match o with
  | some (.fz d) => Q (.fz d) ρ
  | some (.ow _) => Q (.nm i) ρ
  | some (.lk _) => Q (.nm i) ρ
  | _ => False
theorem vM_var {i : Nat} {Q : Rs → List Sl → Prop} : vM (dVar i) ρ Q = varK ρ[i]? i ρ Q := by
  unfold vM dVar varK
  cases ρ[i]? with
  | none => rfl
  | some s => cases s <;> rfl
theorem varK_fz {d : D} {i : Nat} {Q : Rs → List Sl → Prop} : varK (some (.fz d)) i ρ Q = Q (.fz d) ρ := rfl
theorem varK_ow {d : D} {i : Nat} {Q : Rs → List Sl → Prop} : varK (some (.ow d)) i ρ Q = Q (.nm i) ρ := rfl
theorem varK_lk {d : D} {i : Nat} {Q : Rs → List Sl → Prop} : varK (some (.lk d)) i ρ Q = Q (.nm i) ρ := rfl
def lookK (o : Option Sl) (ρ : List Sl) (Q : D → List Sl → Prop) (_ : Tag Q := .mk) : Prop := match o with
  | some (.fz d) => Q d ρ
  | some (.ow d) => Q d ρ
  | some (.lk d) => Q d ρ
  | _ => False
theorem lookK_fz {d : D} {Q : D → List Sl → Prop} : lookK (some (.fz d)) ρ Q = Q d ρ := rfl
theorem lookK_ow {d : D} {Q : D → List Sl → Prop} : lookK (some (.ow d)) ρ Q = Q d ρ := rfl
theorem lookK_lk {d : D} {Q : D → List Sl → Prop} : lookK (some (.lk d)) ρ Q = Q d ρ := rfl
theorem vM_look_fz {d : D} {Q : D → List Sl → Prop} : vM (look (.fz d)) ρ Q = Q d ρ := rfl
theorem vM_look_ow {d : D} {Q : D → List Sl → Prop} : vM (look (.ow d)) ρ Q = Q d ρ := rfl
theorem vM_look_nm {i : Nat} {Q : D → List Sl → Prop} : vM (look (.nm i)) ρ Q = lookK ρ[i]? ρ Q := by
  unfold vM look lookK
  simp only
  cases ρ[i]? with
  | none => rfl
  | some s => cases s <;> rfl
def frzK (o : Option Sl) (i : Nat) (ρ : List Sl) (Q : D → List Sl → Prop) (_ : Tag Q := .mk) : Prop := match o with
  | some (.fz d) => Q d ρ
  | some (.ow d) => Q d (ρ.set i (.fz d))
  | some (.lk d) => Q d (ρ.set i (.fz d))
  | _ => False
theorem frzK_fz {d : D} {i : Nat} {Q : D → List Sl → Prop} : frzK (some (.fz d)) i ρ Q = Q d ρ := rfl
theorem frzK_ow {d : D} {i : Nat} {Q : D → List Sl → Prop} : frzK (some (.ow d)) i ρ Q = Q d (ρ.set i (.fz d)) := rfl
theorem frzK_lk {d : D} {i : Nat} {Q : D → List Sl → Prop} : frzK (some (.lk d)) i ρ Q = Q d (ρ.set i (.fz d)) := rfl
theorem vM_frz_fz {d : D} {Q : D → List Sl → Prop} : vM (frz (.fz d)) ρ Q = Q d ρ := rfl
theorem vM_frz_ow {d : D} {Q : D → List Sl → Prop} : vM (frz (.ow d)) ρ Q = Q d ρ := rfl
theorem vM_frz_nm {i : Nat} {Q : D → List Sl → Prop} : vM (frz (.nm i)) ρ Q = frzK ρ[i]? i ρ Q := by
  unfold vM frz frzK
  simp only
  cases ρ[i]? with
  | none => rfl
  | some s => cases s <;> rfl
theorem vM_op2 {g : G2} {a b : M Rs} {Q : Rs → List Sl → Prop} : vM (dOp2 g a b) ρ Q = vM a ρ fun ra ρ1 => vM b ρ1 fun rb ρ2 => vM (look ra) ρ2 fun da ρ3 => vM (look rb) ρ3 fun db ρ4 => vO (g da db) fun r => Q r ρ4 := by
  unfold dOp2; simp only [vM_bd, vM_opt]
theorem vM_op2T {g : D → D → Option Bool} {a b : M Rs} {Q : Bool → List Sl → Prop} : vM (dOp2T g a b) ρ Q = vM a ρ fun ra ρ1 => vM b ρ1 fun rb ρ2 => vM (look ra) ρ2 fun da ρ3 => vM (look rb) ρ3 fun db ρ4 => vO (g da db) fun r => Q r ρ4 := by
  unfold dOp2T; simp only [vM_bd, vM_opt]
theorem vO_gB {g : D → D → Option Bool} {x y : D} {Q : Rs → Prop} : vO (gB g x y) Q = vO (g x y) fun k => Q (.fz (.bool k)) := by
  show vO ((g x y).map _) Q = _
  cases g x y <;> rfl
theorem vM_op1 {g : D → Option Rs} {a : M Rs} {Q : Rs → List Sl → Prop} : vM (dOp1 g a) ρ Q = vM a ρ fun ra ρ1 => vM (look ra) ρ1 fun da ρ2 => vO (g da) fun r => Q r ρ2 := by
  unfold dOp1; simp only [vM_bd, vM_opt]
theorem vM_nil {Q : List Rs → List Sl → Prop} : vM dNil ρ Q = Q [] ρ := rfl
theorem vM_cons {f : M Rs} {g : M (List Rs)} {Q : List Rs → List Sl → Prop} : vM (dCons f g) ρ Q = vM f ρ fun r ρ1 => vM g ρ1 fun rs ρ2 => Q (r :: rs) ρ2 := by
  unfold dCons; simp only [vM_bd, vM_pr]
theorem vM_frzA0 {Q : List D → List Sl → Prop} : vM (frzA []) ρ Q = Q [] ρ := rfl
theorem vM_frzA {r : Rs} {rs : List Rs} {Q : List D → List Sl → Prop} : vM (frzA (r :: rs)) ρ Q = vM (frz r) ρ fun d ρ1 => vM (frzA rs) ρ1 fun ds ρ2 => Q (d :: ds) ρ2 := by
  conv => lhs; unfold frzA
  simp only [vM_bd, vM_pr]
theorem vM_lookA0 {Q : List D → List Sl → Prop} : vM (lookA []) ρ Q = Q [] ρ := rfl
theorem vM_lookA {r : Rs} {rs : List Rs} {Q : List D → List Sl → Prop} : vM (lookA (r :: rs)) ρ Q = vM (look r) ρ fun d ρ1 => vM (lookA rs) ρ1 fun ds ρ2 => Q (d :: ds) ρ2 := by
  conv => lhs; unfold lookA
  simp only [vM_bd, vM_pr]
theorem vM_ite {c : Prop} [Decidable c] {a b : M α} {Q : α → List Sl → Prop} : vM (if c then a else b) ρ Q = if c then vM a ρ Q else vM b ρ Q := by split <;> rfl
theorem vM_tup {f : M (List Rs)} {Q : Rs → List Sl → Prop} : vM (dTup f) ρ Q = vM f ρ fun rs ρ1 => vM (frzA rs) ρ1 fun ds ρ2 => ds.length ≤ 1000 ∧ Q (.fz (.tuple ds)) ρ2 := by
  unfold dTup; simp only [vM_bd]
  congr 1; funext rs ρ1; congr 1; funext ds ρ2
  by_cases h : ds.length ≤ 1000
  · rw [if_pos h]; simp only [vM_pr, h, true_and]
  · rw [if_neg h]; simp only [h, false_and]; rfl
theorem vM_lst {f : M (List Rs)} {Q : Rs → List Sl → Prop} : vM (dLst f) ρ Q = vM f ρ fun rs ρ1 => vM (frzA rs) ρ1 fun ds ρ2 => ds.length ≤ 1000 ∧ Q (.ow (.list ds)) ρ2 := by
  unfold dLst; simp only [vM_bd]
  congr 1; funext rs ρ1; congr 1; funext ds ρ2
  by_cases h : ds.length ≤ 1000
  · rw [if_pos h]; simp only [vM_pr, h, true_and]
  · rw [if_neg h]; simp only [h, false_and]; rfl
theorem vM_B {g : List D → Option Rs} {f : M (List Rs)} {Q : Rs → List Sl → Prop} : vM (dB g f) ρ Q = vM f ρ fun rs ρ1 => vM (lookA rs) ρ1 fun ds ρ2 => vO (g ds) fun r => Q r ρ2 := by
  unfold dB; simp only [vM_bd, vM_opt]
theorem vM_isi {T : Ty} {f : M Rs} {Q : Rs → List Sl → Prop} : vM (dIsi T f) ρ Q = vM f ρ fun r ρ1 => vM (look r) ρ1 fun d ρ2 => vO (isTO T d) fun r => Q r ρ2 := by
  unfold dIsi; simp only [vM_bd, vM_opt]
theorem vM_me {c : D → Bool} {g : D → List D → Option Rs} {fo : M Rs} {fa : M (List Rs)} {Q : Rs → List Sl → Prop} : vM (dMe c g fo fa) ρ Q = vM fo ρ fun ro ρ1 => vM (look ro) ρ1 fun d0 ρ2 => c d0 = true ∧ vM fa ρ2 fun rs ρ3 => vM (look ro) ρ3 fun d ρ4 => vM (lookA rs) ρ4 fun ds ρ5 => vO (g d ds) fun r => Q r ρ5 := by
  unfold dMe; simp only [vM_bd]
  congr 1; funext rs ρ1; congr 1; funext ds ρ2
  by_cases h : c ds = true
  · rw [if_pos h]; simp only [vM_bd, vM_opt, h, true_and]
  · rw [if_neg h]; exact propext ⟨fun z => z.elim, fun z => (h z.1).elim⟩
theorem vM_sl {fa : M Rs} {fl fh : M (Option Int)} {Q : Rs → List Sl → Prop} : vM (dSl fa fl fh) ρ Q = vM fa ρ fun ra ρ1 => vM fl ρ1 fun l ρ2 => vM fh ρ2 fun h ρ3 => vM (look ra) ρ3 fun d ρ4 => vO (gSl d l h) fun r => Q r ρ4 := by
  unfold dSl; simp only [vM_bd, vM_opt]
theorem vM_noP {Q : Option Int → List Sl → Prop} : vM dNoP ρ Q = Q none ρ := rfl
def intD : D → Option (Option Int)
  | .int i => some (some i)
  | _ => none
theorem vM_part {f : M Rs} {Q : Option Int → List Sl → Prop} : vM (dPart f) ρ Q = vM f ρ fun r ρ1 => vM (look r) ρ1 fun d ρ2 => vO (intD d) fun i => Q i ρ2 := by
  unfold dPart; simp only [vM_bd, vM_opt]
  rfl
theorem intD_int {i : Int} : intD (.int i) = some (some i) := rfl
theorem vM_key {f : M Rs} {Q : Key → List Sl → Prop} : vM (dKey f) ρ Q = vM f ρ fun r ρ1 => vM (look r) ρ1 fun d ρ2 => vO (keyOf d) fun k => Q k ρ2 := by
  unfold dKey; simp only [vM_bd, vM_opt]
def callK (sem : M Rs) (rs : List Rs) (ρ : List Sl) (Q : Rs → List Sl → Prop) (_ : Tag Q := .mk) : Prop := vR (sem (rs.map (slotOf ρ))) fun r ρp => match r with
  | .fz d => Q (.fz d) (wb rs ρp ρ)
  | .ow d => Q (.ow d) (wb rs ρp ρ)
  | .nm _ => False
theorem vM_call {ls : List Bool} {sem : M Rs} {f : M (List Rs)} {Q : Rs → List Sl → Prop} : vM (dCall ls sem f) ρ Q = vM f ρ fun rs ρ1 => vM (argSA ls rs) ρ1 fun rs' ρ2 => (nmOk rs' && rs'.all (heldR ρ2)) = true ∧ callK sem rs' ρ2 Q := by
  unfold dCall; simp only [vM_bd]
  congr 1; funext rs ρ1; congr 1; funext rs' ρ2
  unfold callK vM
  dsimp only
  by_cases h : (nmOk rs' && rs'.all (heldR ρ2)) = true
  · rw [if_pos h]; simp only [h, true_and]
    cases sem (rs'.map (slotOf ρ2)) with
    | bad => rfl
    | ok r ρp => cases r <;> rfl
  · rw [if_neg h]; exact propext ⟨fun z => z.elim, fun z => (h z.1).elim⟩
theorem vM_argSA0 {Q : List Rs → List Sl → Prop} : vM (argSA [] []) ρ Q = Q [] ρ := rfl
theorem vM_argSA {l : Bool} {ls : List Bool} {r : Rs} {rs : List Rs} {Q : List Rs → List Sl → Prop} : vM (argSA (l :: ls) (r :: rs)) ρ Q = vM (argS l r) ρ fun r' ρ1 => vM (argSA ls rs) ρ1 fun rs' ρ2 => Q (r' :: rs') ρ2 := by
  conv => lhs; unfold argSA
  simp only [vM_bd, vM_pr]
theorem vM_argS_fz {l : Bool} {d : D} {Q : Rs → List Sl → Prop} : vM (argS l (.fz d)) ρ Q = Q (.fz d) ρ := rfl
theorem vM_argS_ow {l : Bool} {d : D} {Q : Rs → List Sl → Prop} : vM (argS l (.ow d)) ρ Q = Q (.ow d) ρ := rfl
def argK (o : Option Sl) (l : Bool) (i : Nat) (ρ : List Sl) (Q : Rs → List Sl → Prop) (_ : Tag Q := .mk) : Prop := match o with
  | some (.fz d) => Q (.fz d) ρ
  | some (.ow d) => if l then Q (.nm i) ρ else Q (.fz d) (ρ.set i (.fz d))
  | some (.lk d) => if l then Q (.nm i) ρ else Q (.fz d) (ρ.set i (.fz d))
  | _ => False
theorem vM_argS_nm {l : Bool} {i : Nat} {Q : Rs → List Sl → Prop} : vM (argS l (.nm i)) ρ Q = argK ρ[i]? l i ρ Q := by
  unfold vM argS argK
  simp only
  cases ρ[i]? with
  | none => rfl
  | some s => cases s <;> cases l <;> rfl
theorem argK_fz {l : Bool} {i : Nat} {d : D} {Q : Rs → List Sl → Prop} : argK (some (.fz d)) l i ρ Q = Q (.fz d) ρ := rfl
theorem argK_owt {i : Nat} {d : D} {Q : Rs → List Sl → Prop} : argK (some (.ow d)) true i ρ Q = Q (.nm i) ρ := rfl
theorem argK_owf {i : Nat} {d : D} {Q : Rs → List Sl → Prop} : argK (some (.ow d)) false i ρ Q = Q (.fz d) (ρ.set i (.fz d)) := rfl
theorem argK_lkt {i : Nat} {d : D} {Q : Rs → List Sl → Prop} : argK (some (.lk d)) true i ρ Q = Q (.nm i) ρ := rfl
theorem argK_lkf {i : Nat} {d : D} {Q : Rs → List Sl → Prop} : argK (some (.lk d)) false i ρ Q = Q (.fz d) (ρ.set i (.fz d)) := rfl
def v_mutK (o : Option Sl) (i : Nat) (c : D → Bool) (fr : Bool) (g : D → List D → Option (D × D)) (f : M (List Rs)) (ρ : List Sl) (Q : Rs → List Sl → Prop) : Prop := match o with
  | some (.ow d0) => c d0 = true ∧ vM f ρ fun rs ρ1 => vM (if fr = true then frzA rs else lookA rs) ρ1 fun ds ρ2 => match ρ2[i]? with
    | some (.ow d) => vO (g d ds) fun p => Q (.fz p.2) (ρ2.set i (.ow p.1))
    | _ => False
  | _ => False
theorem vM_mut {i : Nat} {c : D → Bool} {fr : Bool} {g : D → List D → Option (D × D)} {f : M (List Rs)} {Q : Rs → List Sl → Prop} : vM (dMut i c fr g f) ρ Q = v_mutK ρ[i]? i c fr g f ρ Q := by
  unfold v_mutK
  cases h : ρ[i]? with
  | none => unfold vM dMut; rw [h]; rfl
  | some s =>
    cases s with
    | ow d0 =>
      simp only
      by_cases hc : c d0 = true
      · have : dMut i c fr g f ρ = bd f (fun rs => bd (if fr = true then frzA rs else lookA rs) fun ds => fun ρ1 => match ρ1[i]? with
          | some (.ow d) => match g d ds with
            | some (d', res) => .ok (.fz res) (ρ1.set i (.ow d'))
            | none => .bad
          | _ => .bad) ρ := by unfold dMut; rw [h]; simp only [hc, if_true] <;> rfl
        unfold vM
        rw [this]
        show vM (bd f _) ρ Q = _
        simp only [hc, true_and, vM_bd]
        congr 1; funext rs ρ1; congr 1; funext ds ρ2
        unfold vM
        dsimp only
        cases h2 : ρ2[i]? with
        | none => rfl
        | some s2 =>
          cases s2 with
          | ow d =>
            simp only
            cases g d ds with
            | none => rfl
            | some p => rfl
          | em => rfl
          | fz _ => rfl
          | lk _ => rfl
      · unfold vM dMut; rw [h]; simp only [if_neg hc]; exact propext ⟨fun z => z.elim, fun z => (hc z.1).elim⟩
    | em => unfold vM dMut; rw [h]; rfl
    | fz _ => unfold vM dMut; rw [h]; rfl
    | lk _ => unfold vM dMut; rw [h]; rfl
-- tests
theorem vM_yes {Q : Bool → List Sl → Prop} : vM dYes ρ Q = Q true ρ := rfl
-- statements
theorem vS_seq {f g : DS} : vS (dSeq f g) ρ N T B C = vS f ρ (fun ρ1 => vS g ρ1 N T B C) T B C := by
  unfold vS dSeq; cases f ρ <;> rfl
theorem vS_pass : vS dPass ρ N T B C = N ρ := rfl
theorem vS_brk : vS dBrk ρ N T B C = B ρ := rfl
theorem vS_cnt : vS dCnt ρ N T B C = C ρ := rfl
theorem vS_ret {f : M Rs} : vS (dRet f) ρ N T B C = vM f ρ T := by unfold vS dRet vM vR; cases f ρ <;> rfl
theorem vS_drop {f : M Rs} : vS (dDrop f) ρ N T B C = vM f ρ fun _ ρ1 => N ρ1 := by unfold vS dDrop vM vR; cases f ρ <;> rfl
theorem vS_if {c : M Bool} {f g : DS} : vS (dIf c f g) ρ N T B C = vM c ρ fun b ρ1 => if b = true then vS f ρ1 N T B C else vS g ρ1 N T B C := by
  unfold vS dIf vM vR
  cases c ρ with
  | bad => rfl
  | ok b ρ' => cases b <;> rfl
theorem vS_set {i : Nat} {f : M Rs} : vS (dSet i f) ρ N T B C = vM f ρ fun r ρ1 => vO (setR i r ρ1) N := by
  unfold vS dSet vM vR
  cases f ρ with
  | bad => rfl
  | ok r ρ1 => simp only; cases setR i r ρ1 <;> rfl
theorem vS_asg {g : DG} {f : M Rs} : vS (dAsg g f) ρ N T B C = vM f ρ fun r ρ1 => vM (frz r) ρ1 fun d ρ2 => vO (g d ρ2) N := by
  rw [← vM_bd]
  unfold vS dAsg vM vR
  cases bd f frz ρ with
  | bad => rfl
  | ok r ρ1 => simp only; cases g r ρ1 <;> rfl
theorem vS_par {is : List Nat} {f : M (List Rs)} : vS (dPar is f) ρ N T B C = vM f ρ fun rs ρ1 => vM (argSA (is.map fun _ => false) rs) ρ1 fun rs' ρ2 => vO (setQs is rs' ρ2) N := by
  rw [← vM_bd]
  unfold vS dPar vM vR
  cases bd f (argSA (is.map fun _ => false)) ρ with
  | bad => rfl
  | ok r ρ1 => simp only; cases setQs is r ρ1 <;> rfl
def v_putK' (o : Option Sl) (i : Nat) (k : Key) (dv : D) (ρ : List Sl) (N : List Sl → Prop) : Prop := match o with
  | some (.ow d) => vO (gPut d (kD k) dv) fun d' => N (ρ.set i (.ow d'))
  | _ => False
def isOw : Option Sl → Bool
  | some (.ow _) => true
  | _ => false
theorem vS_put {i : Nat} {fi fe : M Rs} : vS (dPut i fi fe) ρ N T B C = vM fe ρ fun r ρ1 => vM (frz r) ρ1 fun dv ρ2 => isOw ρ2[i]? = true ∧ vM (dKey fi) ρ2 fun k ρ3 => v_putK' ρ3[i]? i k dv ρ3 N := by
  rw [← vM_bd]
  unfold vS dPut
  conv => rhs; unfold vM vR
  cases bd fe frz ρ with
  | bad => rfl
  | ok dv ρ1 =>
    simp only
    cases ρ1[i]? with
    | none => simp [isOw]
    | some s =>
      cases s with
      | ow d0 =>
        simp only [isOw, true_and]
        cases dKey fi ρ1 with
        | bad => rfl
        | ok k ρ3 =>
          simp only
          unfold v_putK'
          cases ρ3[i]? with
          | none => rfl
          | some s3 =>
            cases s3 with
            | ow d => simp only; cases gPut d (kD k) dv <;> rfl
            | em => rfl
            | fz _ => rfl
            | lk _ => rfl
      | em => simp [isOw]
      | fz _ => simp [isOw]
      | lk _ => simp [isOw]
def fzO : Option Rs → Option D
  | some (.fz d) => some d
  | _ => none
def v_getK (o : Option Sl) (k : Key) (Q : D → Prop) : Prop := match o with
  | some (.ow d) => vO (gGet d (kD k)) Q
  | _ => False
theorem vS_augS {g : G2} {i : Nat} {fi fe : M Rs} : vS (dAugS g i fi fe) ρ N T B C = (isOw ρ[i]? = true ∧ vM (dKey fi) ρ fun k ρ1 => v_getK ρ1[i]? k fun old => vM fe ρ1 fun r ρ2 => vM (look r) ρ2 fun dv ρ3 => vO (fzO (g old dv)) fun dn => v_putK' ρ3[i]? i k dn ρ3 N) := by
  unfold vS dAugS
  cases ρ[i]? with
  | none => simp [isOw]
  | some s =>
    cases s with
    | em => simp [isOw]
    | fz _ => simp [isOw]
    | lk _ => simp [isOw]
    | ow d0 =>
      simp only [isOw, true_and]
      conv => rhs; unfold vM vR
      cases dKey fi ρ with
      | bad => rfl
      | ok k ρ1 =>
        simp only
        unfold v_getK
        cases ρ1[i]? with
        | none => rfl
        | some s1 =>
          cases s1 with
          | em => rfl
          | fz _ => rfl
          | lk _ => rfl
          | ow d1 =>
            simp only
            cases gGet d1 (kD k) with
            | none => rfl
            | some old =>
              simp only [vO]
              unfold bd
              cases fe ρ1 with
              | bad => rfl
              | ok r0 ρ1' =>
              simp only
              cases look r0 ρ1' with
              | bad => rfl
              | ok dv ρ2 =>
                simp only
                cases g old dv with
                | none => rfl
                | some r =>
                  cases r with
                  | ow _ => rfl
                  | nm _ => rfl
                  | fz dn =>
                    simp only [fzO]
                    unfold v_putK'
                    cases ρ2[i]? with
                    | none => rfl
                    | some s3 =>
                      cases s3 with
                      | ow d => simp only; cases gPut d (kD k) dn <;> rfl
                      | em => rfl
                      | fz _ => rfl
                      | lk _ => rfl
theorem fzO_fz {d : D} : fzO (some (.fz d)) = some d := rfl
def augK (o : Option Sl) (Q : D → Prop) (_ : Tag Q := .mk) : Prop := match o with
  | some (.fz d) => Q d
  | _ => False
theorem augK_fz {d : D} {Q : D → Prop} : augK (some (.fz d)) Q = Q d := rfl
theorem vS_aug {g : G2} {i : Nat} {fe : M Rs} : vS (dAug g i fe) ρ N T B C = augK ρ[i]? fun d => vM fe ρ fun r ρ1 => vM (look r) ρ1 fun dv ρ2 => vO (fzO (g d dv)) fun dn => vO (setR i (.fz dn) ρ2) N := by
  unfold vS dAug augK
  cases ρ[i]? with
  | none => rfl
  | some s =>
    cases s with
    | em => rfl
    | ow _ => rfl
    | lk _ => rfl
    | fz d =>
      simp only
      rw [← vM_bd]
      unfold vM vR
      cases bd fe look ρ with
      | bad => rfl
      | ok dv ρ1 =>
        simp only
        cases g d dv with
        | none => rfl
        | some r =>
          cases r with
          | ow _ => rfl
          | nm _ => rfl
          | fz dn =>
            simp only [fzO, vO, setR]
            by_cases h : i < ρ1.length
            · simp only [h, if_true]
            · simp only [h, if_false]
/-- a def's promise -/
theorem vM_run {ms : List Bool} {n : Nat} {body : DS} {Q : Rs → List Sl → Prop} : vM (runDef ms n body) ρ Q = vS body (ρ ++ List.replicate (n - ρ.length) .em) (fun ρ' => Q (.fz .none) (outP ms ρ')) (fun r ρ' => match r with
    | .fz d => Q (.fz d) (outP ms ρ')
    | .ow d => Q (.ow d) (outP ms ρ')
    | .nm i => match ρ'[i]? with
      | some (.fz d) => Q (.fz d) (outP ms ρ')
      | some (.ow d) => if ms.length ≤ i then Q (.ow d) (outP ms ρ') else Q (.fz d) (outP ms (ρ'.set i (.fz d)))
      | some (.lk d) => Q (.fz d) (outP ms (ρ'.set i (.fz d)))
      | _ => False) nope nope := by
  unfold vM runDef vS
  cases body (ρ ++ List.replicate (n - ρ.length) .em) with
  | nx ρ' => rfl
  | bk ρ' => rfl
  | ct ρ' => rfl
  | bad => rfl
  | rt r ρ' =>
    cases r with
    | fz d => rfl
    | ow d => rfl
    | nm i =>
      simp only
      cases ρ'[i]? with
      | none => rfl
      | some s =>
        cases s with
        | ow d => simp only; by_cases h : ms.length ≤ i <;> simp only [h, if_true, if_false] <;> rfl
        | _ => rfl
/-! ### loops -/
theorem vS_forGo {g : DG} {body : DS} (I : Nat → List Sl → Prop) {T : Rs → List Sl → Prop} {Bk : List Sl → Prop} : ∀ (ds : List D) (j : Nat) (ρ : List Sl), I j ρ →
    (∀ k d ρ, ds[k]? = some d → I (j + k) ρ → vO (g d ρ) fun ρ1 => vS body ρ1 (I (j + k + 1)) T Bk (I (j + k + 1))) → vS (forGo g body ds) ρ (fun ρ => I (j + ds.length) ρ ∨ Bk ρ) T nope nope
  | [], j, ρ, h, _ => by unfold vS forGo; exact .inl h
  | d :: ds, j, ρ, h, st => by
    have h0 := st 0 d ρ rfl h
    unfold vS forGo
    cases e : g d ρ with
    | none => rw [e] at h0; exact h0.elim
    | some ρ1 =>
      rw [e] at h0
      have h0 : vS body ρ1 (I (j + 0 + 1)) T Bk (I (j + 0 + 1)) := h0
      unfold vS at h0
      have next : ∀ ρ2, I (j + 1) ρ2 → vS (forGo g body ds) ρ2 (fun ρ => I (j + (d :: ds).length) ρ ∨ Bk ρ) T nope nope := fun ρ2 h2 => by
        have q := vS_forGo (T := T) (Bk := Bk) I ds (j + 1) ρ2 h2 fun k d' ρ3 hk hi => by
          have := st (k + 1) d' ρ3 (by simpa using hk) (by rw [show j + (k + 1) = j + 1 + k by omega]; exact hi)
          rw [show j + (k + 1) = j + 1 + k by omega] at this; exact this
        rw [show j + (d :: ds).length = j + 1 + ds.length by rw [List.length_cons]; omega]; exact q
      simp only
      cases eb : body ρ1 with
      | nx ρ2 => rw [eb] at h0; exact next ρ2 h0
      | ct ρ2 => rw [eb] at h0; exact next ρ2 h0
      | bk ρ2 => rw [eb] at h0; exact .inr h0
      | rt r ρ2 => rw [eb] at h0; exact h0
      | bad => rw [eb] at h0; exact h0.elim
theorem vS_for {w : M Wk} {g : DG} {body : DS} (h : vM w ρ fun p ρ1 => ∃ I : Nat → List Sl → Prop, I 0 ρ1 ∧ (∀ k d ρ, p.1[k]? = some d → I k ρ → vO (g d ρ) fun ρ2 => vS body ρ2 (I (k + 1)) (fun r ρ => T r (unl p.2 ρ)) (fun ρ => N (unl p.2 ρ)) (I (k + 1))) ∧ ∀ ρ, I p.1.length ρ → N (unl p.2 ρ)) :
    vS (dFor w g body) ρ N T B C := by
  obtain ⟨⟨ds, l⟩, ρ1, e, I, h0, st, fin⟩ := vM_iff.mp h
  unfold vS dFor
  rw [e]
  have q := vS_forGo (g := g) (body := body) (T := fun r ρ => T r (unl l ρ)) (Bk := fun ρ => N (unl l ρ)) I ds 0 ρ1 h0 fun k d ρ hk hi => by
    rw [Nat.zero_add] at hi ⊢; exact st k d ρ hk hi
  simp only
  unfold vS at q
  cases ef : forGo g body ds ρ1 with
  | nx ρ2 =>
    rw [ef] at q
    rcases q with q | q
    · exact fin ρ2 (by rw [Nat.zero_add] at q; exact q)
    · exact q
  | rt r ρ2 => rw [ef] at q; exact q
  | bk ρ2 => rw [ef] at q; exact q.elim
  | ct ρ2 => rw [ef] at q; exact q.elim
  | bad => rw [ef] at q; exact q.elim
/-! ### comprehensions -/
theorem vM_wk {f : M Rs} {Q : Wk → List Sl → Prop} : vM (dWk f) ρ Q = vM f ρ fun r ρ1 => vM (dWk (pr r)) ρ1 Q := by
  unfold dWk; simp only [vM_bd, vM_pr]
end
end DL
/-! the rules over closed predicates (nothing unfolds them) -/
namespace DL
open PySem L2
structure wM {α : Type} (m : M α) (ρ : List Sl) (Q : α → List Sl → Prop) (_ : Tag Q := .mk) : Prop where
  run : vM m ρ Q
structure wO {α : Type} (o : Option α) (Q : α → Prop) (_ : Tag Q := .mk) : Prop where
  run : vO o Q
structure wS (s : DS) (ρ : List Sl) (N : List Sl → Prop) (T : Rs → List Sl → Prop) (B C : List Sl → Prop) (_ : Tag (N, T, B, C) := .mk) : Prop where
  run : vS s ρ N T B C
theorem wM_def {α : Type} (m : M α) (ρ : List Sl) (Q : α → List Sl → Prop) : wM m ρ Q = vM m ρ Q := propext ⟨fun h => h.run, fun h => ⟨h⟩⟩
theorem wO_def {α : Type} (o : Option α) (Q : α → Prop) : wO o Q = vO o Q := propext ⟨fun h => h.run, fun h => ⟨h⟩⟩
theorem wS_def (s : DS) (ρ : List Sl) (N : List Sl → Prop) (T : Rs → List Sl → Prop) (B C : List Sl → Prop) : wS s ρ N T B C = vS s ρ N T B C := propext ⟨fun h => h.run, fun h => ⟨h⟩⟩
section
variable {α β : Type} {ρ : List Sl} {N : List Sl → Prop} {T : Rs → List Sl → Prop} {B C : List Sl → Prop}
def mutK (o : Option Sl) (i : Nat) (c : D → Bool) (fr : Bool) (g : D → List D → Option (D × D)) (f : M (List Rs)) (ρ : List Sl) (Q : Rs → List Sl → Prop) (_ : Tag Q := .mk) : Prop := match o with
  | some (.ow d0) => c d0 = true ∧ wM f ρ fun rs ρ1 => wM (if fr = true then frzA rs else lookA rs) ρ1 fun ds ρ2 => match ρ2[i]? with
    | some (.ow d) => wO (g d ds) fun p => Q (.fz p.2) (ρ2.set i (.ow p.1))
    | _ => False
  | _ => False
theorem mutK_def (o : Option Sl) (i : Nat) (c : D → Bool) (fr : Bool) (g : D → List D → Option (D × D)) (f : M (List Rs)) (ρ : List Sl) (Q : Rs → List Sl → Prop) : mutK o i c fr g f ρ Q = v_mutK o i c fr g f ρ Q := by
  unfold mutK v_mutK
  simp only [wM_def, wO_def] <;> rfl
def putK' (o : Option Sl) (i : Nat) (k : Key) (dv : D) (ρ : List Sl) (N : List Sl → Prop) (_ : Tag N := .mk) : Prop := match o with
  | some (.ow d) => wO (gPut d (kD k) dv) fun d' => N (ρ.set i (.ow d'))
  | _ => False
theorem putK'_def (o : Option Sl) (i : Nat) (k : Key) (dv : D) (ρ : List Sl) (N : List Sl → Prop) : putK' o i k dv ρ N = v_putK' o i k dv ρ N := by
  unfold putK' v_putK'
  simp only [wO_def] <;> rfl
def getK (o : Option Sl) (k : Key) (Q : D → Prop) (_ : Tag Q := .mk) : Prop := match o with
  | some (.ow d) => wO (gGet d (kD k)) Q
  | _ => False
theorem getK_def (o : Option Sl) (k : Key) (Q : D → Prop) : getK o k Q = v_getK o k Q := by
  unfold getK v_getK
  simp only [wO_def] <;> rfl
theorem wM_iff {α : Type} {m : M α} {ρ : List Sl} {Q : α → List Sl → Prop} : wM m ρ Q ↔ ∃ a ρ', m ρ = .ok a ρ' ∧ Q a ρ' := by
  rw [wM_def]; exact vM_iff
theorem wM_eq {α : Type} {m : M α} {ρ ρ' : List Sl} {a : α} (h : wM m ρ fun b ρ1 => b = a ∧ ρ1 = ρ') : m ρ = .ok a ρ' := by
  rw [wM_def] at h; exact vM_eq h
theorem wM_mono {α : Type} {m : M α} {ρ : List Sl} {Q Q' : α → List Sl → Prop} (h : wM m ρ Q) (i : ∀ a ρ', Q a ρ' → Q' a ρ') : wM m ρ Q' := by
  rw [wM_def] at h ⊢; exact vM_mono h i
theorem wS_mono {s : DS} {ρ : List Sl} {N N' : List Sl → Prop} {T T' : Rs → List Sl → Prop} {B B' C C' : List Sl → Prop} (h : wS s ρ N T B C) (n : ∀ ρ, N ρ → N' ρ) (t : ∀ r ρ, T r ρ → T' r ρ) (b : ∀ ρ, B ρ → B' ρ) (c : ∀ ρ, C ρ → C' ρ) : wS s ρ N' T' B' C' := by
  rw [wS_def] at h ⊢; exact vS_mono h n t b c
theorem wM_bd {m : M α} {k : α → M β} {Q : β → List Sl → Prop} : wM (bd m k) ρ Q = wM m ρ fun a ρ1 => wM (k a) ρ1 Q := by
  simp only [wM_def, wO_def, wS_def, mutK_def, putK'_def, getK_def]; exact vM_bd
theorem wM_pr {a : α} {Q : α → List Sl → Prop} : wM (pr a) ρ Q = Q a ρ := by
  simp only [wM_def, wO_def, wS_def, mutK_def, putK'_def, getK_def]; exact vM_pr
theorem wM_opt {o : Option α} {Q : α → List Sl → Prop} : wM (opt o) ρ Q = wO o fun a => Q a ρ := by
  simp only [wM_def, wO_def, wS_def, mutK_def, putK'_def, getK_def]; exact vM_opt
theorem wO_some {a : α} {Q : α → Prop} : wO (some a) Q = Q a := by
  simp only [wM_def, wO_def, wS_def, mutK_def, putK'_def, getK_def]; exact vO_some
theorem wM_C {d : D} {Q : Rs → List Sl → Prop} : wM (dC d) ρ Q = Q (.fz d) ρ := by
  simp only [wM_def, wO_def, wS_def, mutK_def, putK'_def, getK_def]; exact vM_C
theorem wM_var {i : Nat} {Q : Rs → List Sl → Prop} : wM (dVar i) ρ Q = varK ρ[i]? i ρ Q := by
  simp only [wM_def, wO_def, wS_def, mutK_def, putK'_def, getK_def]; exact vM_var
theorem wM_look_fz {d : D} {Q : D → List Sl → Prop} : wM (look (.fz d)) ρ Q = Q d ρ := by
  simp only [wM_def, wO_def, wS_def, mutK_def, putK'_def, getK_def]; exact vM_look_fz
theorem wM_look_ow {d : D} {Q : D → List Sl → Prop} : wM (look (.ow d)) ρ Q = Q d ρ := by
  simp only [wM_def, wO_def, wS_def, mutK_def, putK'_def, getK_def]; exact vM_look_ow
theorem wM_look_nm {i : Nat} {Q : D → List Sl → Prop} : wM (look (.nm i)) ρ Q = lookK ρ[i]? ρ Q := by
  simp only [wM_def, wO_def, wS_def, mutK_def, putK'_def, getK_def]; exact vM_look_nm
theorem wM_frz_fz {d : D} {Q : D → List Sl → Prop} : wM (frz (.fz d)) ρ Q = Q d ρ := by
  simp only [wM_def, wO_def, wS_def, mutK_def, putK'_def, getK_def]; exact vM_frz_fz
theorem wM_frz_ow {d : D} {Q : D → List Sl → Prop} : wM (frz (.ow d)) ρ Q = Q d ρ := by
  simp only [wM_def, wO_def, wS_def, mutK_def, putK'_def, getK_def]; exact vM_frz_ow
theorem wM_frz_nm {i : Nat} {Q : D → List Sl → Prop} : wM (frz (.nm i)) ρ Q = frzK ρ[i]? i ρ Q := by
  simp only [wM_def, wO_def, wS_def, mutK_def, putK'_def, getK_def]; exact vM_frz_nm
theorem wM_op2 {g : G2} {a b : M Rs} {Q : Rs → List Sl → Prop} : wM (dOp2 g a b) ρ Q = wM a ρ fun ra ρ1 => wM b ρ1 fun rb ρ2 => wM (look ra) ρ2 fun da ρ3 => wM (look rb) ρ3 fun db ρ4 => wO (g da db) fun r => Q r ρ4 := by
  simp only [wM_def, wO_def, wS_def, mutK_def, putK'_def, getK_def]; exact vM_op2
theorem wM_op2T {g : D → D → Option Bool} {a b : M Rs} {Q : Bool → List Sl → Prop} : wM (dOp2T g a b) ρ Q = wM a ρ fun ra ρ1 => wM b ρ1 fun rb ρ2 => wM (look ra) ρ2 fun da ρ3 => wM (look rb) ρ3 fun db ρ4 => wO (g da db) fun r => Q r ρ4 := by
  simp only [wM_def, wO_def, wS_def, mutK_def, putK'_def, getK_def]; exact vM_op2T
theorem wO_gB {g : D → D → Option Bool} {x y : D} {Q : Rs → Prop} : wO (gB g x y) Q = wO (g x y) fun k => Q (.fz (.bool k)) := by
  simp only [wM_def, wO_def, wS_def, mutK_def, putK'_def, getK_def]; exact vO_gB
theorem wM_op1 {g : D → Option Rs} {a : M Rs} {Q : Rs → List Sl → Prop} : wM (dOp1 g a) ρ Q = wM a ρ fun ra ρ1 => wM (look ra) ρ1 fun da ρ2 => wO (g da) fun r => Q r ρ2 := by
  simp only [wM_def, wO_def, wS_def, mutK_def, putK'_def, getK_def]; exact vM_op1
theorem wM_nil {Q : List Rs → List Sl → Prop} : wM dNil ρ Q = Q [] ρ := by
  simp only [wM_def, wO_def, wS_def, mutK_def, putK'_def, getK_def]; exact vM_nil
theorem wM_cons {f : M Rs} {g : M (List Rs)} {Q : List Rs → List Sl → Prop} : wM (dCons f g) ρ Q = wM f ρ fun r ρ1 => wM g ρ1 fun rs ρ2 => Q (r :: rs) ρ2 := by
  simp only [wM_def, wO_def, wS_def, mutK_def, putK'_def, getK_def]; exact vM_cons
theorem wM_frzA0 {Q : List D → List Sl → Prop} : wM (frzA []) ρ Q = Q [] ρ := by
  simp only [wM_def, wO_def, wS_def, mutK_def, putK'_def, getK_def]; exact vM_frzA0
theorem wM_frzA {r : Rs} {rs : List Rs} {Q : List D → List Sl → Prop} : wM (frzA (r :: rs)) ρ Q = wM (frz r) ρ fun d ρ1 => wM (frzA rs) ρ1 fun ds ρ2 => Q (d :: ds) ρ2 := by
  simp only [wM_def, wO_def, wS_def, mutK_def, putK'_def, getK_def]; exact vM_frzA
theorem wM_lookA0 {Q : List D → List Sl → Prop} : wM (lookA []) ρ Q = Q [] ρ := by
  simp only [wM_def, wO_def, wS_def, mutK_def, putK'_def, getK_def]; exact vM_lookA0
theorem wM_lookA {r : Rs} {rs : List Rs} {Q : List D → List Sl → Prop} : wM (lookA (r :: rs)) ρ Q = wM (look r) ρ fun d ρ1 => wM (lookA rs) ρ1 fun ds ρ2 => Q (d :: ds) ρ2 := by
  simp only [wM_def, wO_def, wS_def, mutK_def, putK'_def, getK_def]; exact vM_lookA
theorem wM_tup {f : M (List Rs)} {Q : Rs → List Sl → Prop} : wM (dTup f) ρ Q = wM f ρ fun rs ρ1 => wM (frzA rs) ρ1 fun ds ρ2 => ds.length ≤ 1000 ∧ Q (.fz (.tuple ds)) ρ2 := by
  simp only [wM_def, wO_def, wS_def, mutK_def, putK'_def, getK_def]; exact vM_tup
theorem wM_lst {f : M (List Rs)} {Q : Rs → List Sl → Prop} : wM (dLst f) ρ Q = wM f ρ fun rs ρ1 => wM (frzA rs) ρ1 fun ds ρ2 => ds.length ≤ 1000 ∧ Q (.ow (.list ds)) ρ2 := by
  simp only [wM_def, wO_def, wS_def, mutK_def, putK'_def, getK_def]; exact vM_lst
theorem wM_B {g : List D → Option Rs} {f : M (List Rs)} {Q : Rs → List Sl → Prop} : wM (dB g f) ρ Q = wM f ρ fun rs ρ1 => wM (lookA rs) ρ1 fun ds ρ2 => wO (g ds) fun r => Q r ρ2 := by
  simp only [wM_def, wO_def, wS_def, mutK_def, putK'_def, getK_def]; exact vM_B
theorem wM_isi {T : Ty} {f : M Rs} {Q : Rs → List Sl → Prop} : wM (dIsi T f) ρ Q = wM f ρ fun r ρ1 => wM (look r) ρ1 fun d ρ2 => wO (isTO T d) fun r => Q r ρ2 := by
  simp only [wM_def, wO_def, wS_def, mutK_def, putK'_def, getK_def]; exact vM_isi
theorem wM_me {c : D → Bool} {g : D → List D → Option Rs} {fo : M Rs} {fa : M (List Rs)} {Q : Rs → List Sl → Prop} : wM (dMe c g fo fa) ρ Q = wM fo ρ fun ro ρ1 => wM (look ro) ρ1 fun d0 ρ2 => c d0 = true ∧ wM fa ρ2 fun rs ρ3 => wM (look ro) ρ3 fun d ρ4 => wM (lookA rs) ρ4 fun ds ρ5 => wO (g d ds) fun r => Q r ρ5 := by
  simp only [wM_def, wO_def, wS_def, mutK_def, putK'_def, getK_def]; exact vM_me
theorem wM_sl {fa : M Rs} {fl fh : M (Option Int)} {Q : Rs → List Sl → Prop} : wM (dSl fa fl fh) ρ Q = wM fa ρ fun ra ρ1 => wM fl ρ1 fun l ρ2 => wM fh ρ2 fun h ρ3 => wM (look ra) ρ3 fun d ρ4 => wO (gSl d l h) fun r => Q r ρ4 := by
  simp only [wM_def, wO_def, wS_def, mutK_def, putK'_def, getK_def]; exact vM_sl
theorem wM_noP {Q : Option Int → List Sl → Prop} : wM dNoP ρ Q = Q none ρ := by
  simp only [wM_def, wO_def, wS_def, mutK_def, putK'_def, getK_def]; exact vM_noP
theorem wM_part {f : M Rs} {Q : Option Int → List Sl → Prop} : wM (dPart f) ρ Q = wM f ρ fun r ρ1 => wM (look r) ρ1 fun d ρ2 => wO (intD d) fun i => Q i ρ2 := by
  simp only [wM_def, wO_def, wS_def, mutK_def, putK'_def, getK_def]; exact vM_part
theorem wM_key {f : M Rs} {Q : Key → List Sl → Prop} : wM (dKey f) ρ Q = wM f ρ fun r ρ1 => wM (look r) ρ1 fun d ρ2 => wO (keyOf d) fun k => Q k ρ2 := by
  simp only [wM_def, wO_def, wS_def, mutK_def, putK'_def, getK_def]; exact vM_key
theorem wM_call {ls : List Bool} {sem : M Rs} {f : M (List Rs)} {Q : Rs → List Sl → Prop} : wM (dCall ls sem f) ρ Q = wM f ρ fun rs ρ1 => wM (argSA ls rs) ρ1 fun rs' ρ2 => (nmOk rs' && rs'.all (heldR ρ2)) = true ∧ callK sem rs' ρ2 Q := by
  simp only [wM_def, wO_def, wS_def, mutK_def, putK'_def, getK_def]; exact vM_call
theorem wM_argSA0 {Q : List Rs → List Sl → Prop} : wM (argSA [] []) ρ Q = Q [] ρ := by
  simp only [wM_def, wO_def, wS_def, mutK_def, putK'_def, getK_def]; exact vM_argSA0
theorem wM_argSA {l : Bool} {ls : List Bool} {r : Rs} {rs : List Rs} {Q : List Rs → List Sl → Prop} : wM (argSA (l :: ls) (r :: rs)) ρ Q = wM (argS l r) ρ fun r' ρ1 => wM (argSA ls rs) ρ1 fun rs' ρ2 => Q (r' :: rs') ρ2 := by
  simp only [wM_def, wO_def, wS_def, mutK_def, putK'_def, getK_def]; exact vM_argSA
theorem wM_argS_fz {l : Bool} {d : D} {Q : Rs → List Sl → Prop} : wM (argS l (.fz d)) ρ Q = Q (.fz d) ρ := by
  simp only [wM_def, wO_def, wS_def, mutK_def, putK'_def, getK_def]; exact vM_argS_fz
theorem wM_argS_ow {l : Bool} {d : D} {Q : Rs → List Sl → Prop} : wM (argS l (.ow d)) ρ Q = Q (.ow d) ρ := by
  simp only [wM_def, wO_def, wS_def, mutK_def, putK'_def, getK_def]; exact vM_argS_ow
theorem wM_argS_nm {l : Bool} {i : Nat} {Q : Rs → List Sl → Prop} : wM (argS l (.nm i)) ρ Q = argK ρ[i]? l i ρ Q := by
  simp only [wM_def, wO_def, wS_def, mutK_def, putK'_def, getK_def]; exact vM_argS_nm
theorem wM_mut {i : Nat} {c : D → Bool} {fr : Bool} {g : D → List D → Option (D × D)} {f : M (List Rs)} {Q : Rs → List Sl → Prop} : wM (dMut i c fr g f) ρ Q = mutK ρ[i]? i c fr g f ρ Q := by
  simp only [wM_def, wO_def, wS_def, mutK_def, putK'_def, getK_def]; exact vM_mut
theorem wM_yes {Q : Bool → List Sl → Prop} : wM dYes ρ Q = Q true ρ := by
  simp only [wM_def, wO_def, wS_def, mutK_def, putK'_def, getK_def]; exact vM_yes
theorem wS_seq {f g : DS} : wS (dSeq f g) ρ N T B C = wS f ρ (fun ρ1 => wS g ρ1 N T B C) T B C := by
  simp only [wM_def, wO_def, wS_def, mutK_def, putK'_def, getK_def]; exact vS_seq
theorem wS_pass : wS dPass ρ N T B C = N ρ := by
  simp only [wM_def, wO_def, wS_def, mutK_def, putK'_def, getK_def]; exact vS_pass
theorem wS_brk : wS dBrk ρ N T B C = B ρ := by
  simp only [wM_def, wO_def, wS_def, mutK_def, putK'_def, getK_def]; exact vS_brk
theorem wS_cnt : wS dCnt ρ N T B C = C ρ := by
  simp only [wM_def, wO_def, wS_def, mutK_def, putK'_def, getK_def]; exact vS_cnt
theorem wS_ret {f : M Rs} : wS (dRet f) ρ N T B C = wM f ρ T := by
  simp only [wM_def, wO_def, wS_def, mutK_def, putK'_def, getK_def]; exact vS_ret
theorem wS_drop {f : M Rs} : wS (dDrop f) ρ N T B C = wM f ρ fun _ ρ1 => N ρ1 := by
  simp only [wM_def, wO_def, wS_def, mutK_def, putK'_def, getK_def]; exact vS_drop
theorem wS_if {c : M Bool} {f g : DS} : wS (dIf c f g) ρ N T B C = wM c ρ fun b ρ1 => if b = true then wS f ρ1 N T B C else wS g ρ1 N T B C := by
  simp only [wM_def, wO_def, wS_def, mutK_def, putK'_def, getK_def]; exact vS_if
theorem wS_set {i : Nat} {f : M Rs} : wS (dSet i f) ρ N T B C = wM f ρ fun r ρ1 => wO (setR i r ρ1) N := by
  simp only [wM_def, wO_def, wS_def, mutK_def, putK'_def, getK_def]; exact vS_set
theorem wS_asg {g : DG} {f : M Rs} : wS (dAsg g f) ρ N T B C = wM f ρ fun r ρ1 => wM (frz r) ρ1 fun d ρ2 => wO (g d ρ2) N := by
  simp only [wM_def, wO_def, wS_def, mutK_def, putK'_def, getK_def]; exact vS_asg
theorem wS_par {is : List Nat} {f : M (List Rs)} : wS (dPar is f) ρ N T B C = wM f ρ fun rs ρ1 => wM (argSA (is.map fun _ => false) rs) ρ1 fun rs' ρ2 => wO (setQs is rs' ρ2) N := by
  simp only [wM_def, wO_def, wS_def, mutK_def, putK'_def, getK_def]; exact vS_par
theorem wS_put {i : Nat} {fi fe : M Rs} : wS (dPut i fi fe) ρ N T B C = wM fe ρ fun r ρ1 => wM (frz r) ρ1 fun dv ρ2 => isOw ρ2[i]? = true ∧ wM (dKey fi) ρ2 fun k ρ3 => putK' ρ3[i]? i k dv ρ3 N := by
  simp only [wM_def, wO_def, wS_def, mutK_def, putK'_def, getK_def]; exact vS_put
theorem wS_augS {g : G2} {i : Nat} {fi fe : M Rs} : wS (dAugS g i fi fe) ρ N T B C = (isOw ρ[i]? = true ∧ wM (dKey fi) ρ fun k ρ1 => getK ρ1[i]? k fun old => wM fe ρ1 fun r ρ2 => wM (look r) ρ2 fun dv ρ3 => wO (fzO (g old dv)) fun dn => putK' ρ3[i]? i k dn ρ3 N) := by
  simp only [wM_def, wO_def, wS_def, mutK_def, putK'_def, getK_def]; exact vS_augS
theorem wS_aug {g : G2} {i : Nat} {fe : M Rs} : wS (dAug g i fe) ρ N T B C = augK ρ[i]? fun d => wM fe ρ fun r ρ1 => wM (look r) ρ1 fun dv ρ2 => wO (fzO (g d dv)) fun dn => wO (setR i (.fz dn) ρ2) N := by
  rw [wS_def, vS_aug]
  have e : (fun d => wM fe ρ fun r ρ1 => wM (look r) ρ1 fun dv ρ2 => wO (fzO (g d dv)) fun dn => wO (setR i (.fz dn) ρ2) N) = fun d => vM fe ρ fun r ρ1 => vM (look r) ρ1 fun dv ρ2 => vO (fzO (g d dv)) fun dn => vO (setR i (.fz dn) ρ2) N := by
    funext d; simp only [wM_def, wO_def]
  rw [e]
theorem wS_for {w : M Wk} {g : DG} {body : DS} (h : wM w ρ fun p ρ1 => ∃ I : Nat → List Sl → Prop, I 0 ρ1 ∧ (∀ k d ρ, p.1[k]? = some d → I k ρ → wO (g d ρ) fun ρ2 => wS body ρ2 (I (k + 1)) (fun r ρ => T r (unl p.2 ρ)) (fun ρ => N (unl p.2 ρ)) (I (k + 1))) ∧ ∀ ρ, I p.1.length ρ → N (unl p.2 ρ)) :
    wS (dFor w g body) ρ N T B C := by
  simp only [wM_def, wO_def, wS_def, mutK_def, putK'_def, getK_def] at h ⊢; exact vS_for h
theorem putK'_ow {i : Nat} {k : Key} {dv d : D} : putK' (some (.ow d)) i k dv ρ N = wO (gPut d (kD k) dv) fun d' => N (ρ.set i (.ow d')) := rfl
theorem getK_ow {k : Key} {d : D} {Q : D → Prop} : getK (some (.ow d)) k Q = wO (gGet d (kD k)) Q := rfl
end
end DL
namespace DL
open PySem L2
/-! ### the reckoning of data -/
section
variable {i j : Int} {x y : Str} {ds es : List D} {d e : D} {n : Nat}
theorem gAdd_ii : gAdd (.int i) (.int j) = some (.fz (.int (i + j))) := rfl
theorem gAdd_ll (h : ds.length + es.length ≤ sizeLine) : gAdd (.list ds) (.list es) = some (.ow (.list (ds ++ es))) := if_pos h
theorem gSub_ii : gSub (.int i) (.int j) = some (.fz (.int (i - j))) := rfl
theorem gMul_l (h1 : -18446744073709551616 < i) (h2 : i < 18446744073709551616) : gMul (.int i) (.int j) = some (.fz (.int (i * j))) := if_pos (by unfold mulOk; rw [Bool.or_eq_true, decide_eq_true_eq]; exact .inl ⟨h1, h2⟩)
theorem gMul_r (h1 : -18446744073709551616 < j) (h2 : j < 18446744073709551616) : gMul (.int i) (.int j) = some (.fz (.int (i * j))) := if_pos (by unfold mulOk; rw [Bool.or_eq_true, decide_eq_true_eq, decide_eq_true_eq]; exact .inr ⟨h1, h2⟩)
theorem gDiv_ii (h1 : 0 < j) (h2 : j < 1073741824) : gDiv (.int i) (.int j) = some (.fz (.int (i / j))) := if_pos ⟨h1, h2⟩
theorem gMod_ii (h1 : 0 < j) : gMod (.int i) (.int j) = some (.fz (.int (i % j))) := if_pos h1
theorem gNeg_i : gNeg (.int i) = some (.fz (.int (-i))) := rfl
theorem gPow_ii (h1 : 0 ≤ j) (h2 : j ≤ 1000000) (h3 : i.natAbs < 18446744073709551616) : gPow (.int i) (.int j) = some (.fz (.int (i ^ j.toNat))) := if_pos ⟨h1, h2, h3⟩
theorem gPow_18 : gPow (.int 10) (.int 18) = some (.fz (.int 1000000000000000000)) := by
  rw [gPow_ii (by decide) (by decide) (by decide)]; rfl
theorem gEq_ii : gEq (.int i) (.int j) = some (decide (i = j)) := by
  show some (i == j) = _
  rw [show (i == j) = decide (i = j) from rfl]
theorem gEq_ss : gEq (.str x) (.str y) = some (decide (x = y)) := by
  show some (x == y) = _
  by_cases h : x = y
  · subst h; simp
  · rw [decide_eq_false h]; simpa using h
theorem gEq_bb {a b : Bool} : gEq (.bool a) (.bool b) = some (decide (a = b)) := by
  show some (a == b) = _
  cases a <;> cases b <;> rfl
theorem gNe_of {b : Bool} (h : gEq d e = some b) : gNe d e = some (!b) := by unfold gNe; rw [h]; rfl
theorem gNe_ii : gNe (.int i) (.int j) = some (!decide (i = j)) := gNe_of gEq_ii
theorem gNe_ss : gNe (.str x) (.str y) = some (!decide (x = y)) := gNe_of gEq_ss
theorem gLt_ii : gLt (.int i) (.int j) = some (decide (i < j)) := rfl
theorem gLe_ii : gLe (.int i) (.int j) = some (decide (i ≤ j)) := rfl
theorem gGt_ii : gGt (.int i) (.int j) = some (decide (j < i)) := rfl
theorem gGe_ii : gGe (.int i) (.int j) = some (decide (j ≤ i)) := rfl
theorem atI_of (h0 : 0 ≤ i) (h : ds[i.toNat]? = some d) : atI ds i = some d := by
  have e := atI_nat (xs := ds) (j := i.toNat) h
  rw [Int.toNat_of_nonneg h0] at e; exact e
theorem gIx_l (h0 : 0 ≤ i) (h : ds[i.toNat]? = some d) : gIx (.list ds) (.int i) = some (.fz d) := by
  show (atI ds i).map _ = _
  rw [atI_of h0 h]; rfl
theorem gIx_t (h0 : 0 ≤ i) (h : ds[i.toNat]? = some d) : gIx (.tuple ds) (.int i) = some (.fz d) := by
  show (atI ds i).map _ = _
  rw [atI_of h0 h]; rfl
theorem gIx_l0 : gIx (.list (d :: ds)) (.int 0) = some (.fz d) := gIx_l (by decide) rfl
theorem gIx_t0 : gIx (.tuple (d :: ds)) (.int 0) = some (.fz d) := gIx_t (by decide) rfl
theorem gIx_l1 {d1 : D} : gIx (.list (d :: d1 :: ds)) (.int 1) = some (.fz d1) := gIx_l (by decide) rfl
theorem gIx_t1 {d1 : D} : gIx (.tuple (d :: d1 :: ds)) (.int 1) = some (.fz d1) := gIx_t (by decide) rfl
theorem gIx_l2 {d1 d2 : D} : gIx (.list (d :: d1 :: d2 :: ds)) (.int 2) = some (.fz d2) := gIx_l (by decide) rfl
theorem gIx_t2 {d1 d2 : D} : gIx (.tuple (d :: d1 :: d2 :: ds)) (.int 2) = some (.fz d2) := gIx_t (by decide) rfl
theorem gIx_t3 {d1 d2 d3 : D} : gIx (.tuple (d :: d1 :: d2 :: d3 :: ds)) (.int 3) = some (.fz d3) := gIx_t (by decide) rfl
theorem gIx_lm {α : Type} {f : α → D} {xs : List α} {k : Nat} (h : k < xs.length) : gIx (.list (xs.map f)) (.int (k : Int)) = some (.fz (f xs[k])) := gIx_l (by omega) (by rw [List.getElem?_map, Int.toNat_natCast, List.getElem?_eq_getElem h]; rfl)
theorem gLen_l : gLen [.list ds] = some (.fz (.int (ds.length : Nat))) := rfl
theorem gLen_t : gLen [.tuple ds] = some (.fz (.int (ds.length : Nat))) := rfl
theorem gLen_d {kvs : List (D × D)} (h : isK kvs = true) : gLen [.dict kvs] = some (.fz (.int (kvs.length : Nat))) := by simp only [gLen, h, if_true]
theorem gAbs_i : gAbs [.int i] = some (.fz (.int (if i < 0 then -i else i))) := rfl
theorem gInt_i : gInt [.int i] = some (.fz (.int i)) := rfl
theorem gTuple_l : gTuple [.list ds] = some (.fz (.tuple ds)) := rfl
theorem gTuple_t : gTuple [.tuple ds] = some (.fz (.tuple ds)) := rfl
theorem gList_l : gList [.list ds] = some (.ow (.list ds)) := rfl
theorem gList_t : gList [.tuple ds] = some (.ow (.list ds)) := rfl
theorem gAppend_l (h : ds.length < sizeLine) : gAppend (.list ds) [d] = some (.list (ds ++ [d]), .none) := if_pos h
theorem gExtend_l (h : ds.length + es.length ≤ sizeLine) : gExtend (.list ds) [.list es] = some (.list (ds ++ es), .none) := if_pos h
theorem gMax_ii : gMax [.int i, .int j] = some (.fz (.int (max i j))) := by
  show some (Rs.fz (PyData.int (if j > i then j else i))) = _
  congr 3
  split <;> omega
theorem gMin_ii : gMin [.int i, .int j] = some (.fz (.int (min i j))) := by
  show some (Rs.fz (PyData.int (if j < i then j else i))) = _
  congr 3
  split <;> omega
theorem gMax_l {ns : List Int} (h : ns ≠ []) : gMax [.list (ns.map .int)] = some (.fz (.int (maxL ns))) := by
  show (intsOf (ns.map .int)).bind _ = _
  rw [intsOf_map]; exact if_neg h
theorem gSum_l {ns : List Int} : gSum [.list (ns.map .int)] = some (.fz (.int ns.sum)) := by
  show (intsOf (ns.map .int)).map _ = _
  rw [intsOf_map]; rfl
theorem gIs_none : gIs d .none = some (isNone d) := by
  cases d <;> rfl
end
/-! ### rules with folded continuations -/
section
variable {ρ : List Sl} {N : List Sl → Prop} {T : Rs → List Sl → Prop} {B C : List Sl → Prop}
def mutO (o : Option Sl) (i : Nat) (g : D → List D → Option (D × D)) (ds : List D) (ρ : List Sl) (Q : Rs → List Sl → Prop) (_ : Tag Q := .mk) : Prop := match o with
  | some (.ow d) => wO (g d ds) fun p => Q (.fz p.2) (ρ.set i (.ow p.1))
  | _ => False
theorem mutK_ow' {i : Nat} {c : D → Bool} {fr : Bool} {g : D → List D → Option (D × D)} {f : M (List Rs)} {Q : Rs → List Sl → Prop} {d0 : D} : mutK (some (.ow d0)) i c fr g f ρ Q = (c d0 = true ∧ wM f ρ fun rs ρ1 => wM (if fr = true then frzA rs else lookA rs) ρ1 fun ds ρ2 => mutO ρ2[i]? i g ds ρ2 Q) := rfl
theorem mutO_ow {i : Nat} {g : D → List D → Option (D × D)} {ds : List D} {d : D} {Q : Rs → List Sl → Prop} : mutO (some (.ow d)) i g ds ρ Q = wO (g d ds) fun p => Q (.fz p.2) (ρ.set i (.ow p.1)) := rfl
def retK (ms : List Bool) (Q : Rs → List Sl → Prop) (r : Rs) (ρ : List Sl) (_ : Tag Q := .mk) : Prop := match r with
  | .fz d => Q (.fz d) (outP ms ρ)
  | .ow d => Q (.ow d) (outP ms ρ)
  | .nm i => match ρ[i]? with
    | some (.fz d) => Q (.fz d) (outP ms ρ)
    | some (.ow d) => if ms.length ≤ i then Q (.ow d) (outP ms ρ) else Q (.fz d) (outP ms (ρ.set i (.fz d)))
    | some (.lk d) => Q (.fz d) (outP ms (ρ.set i (.fz d)))
    | _ => False
def retO (o : Option Sl) (i : Nat) (ms : List Bool) (Q : Rs → List Sl → Prop) (ρ : List Sl) (_ : Tag Q := .mk) : Prop := match o with
    | some (.fz d) => Q (.fz d) (outP ms ρ)
    | some (.ow d) => if ms.length ≤ i then Q (.ow d) (outP ms ρ) else Q (.fz d) (outP ms (ρ.set i (.fz d)))
    | some (.lk d) => Q (.fz d) (outP ms (ρ.set i (.fz d)))
    | _ => False
variable {ms : List Bool} {Q : Rs → List Sl → Prop} {d : D} {i : Nat}
theorem retK_fz : retK ms Q (.fz d) ρ = Q (.fz d) (outP ms ρ) := rfl
theorem retK_ow : retK ms Q (.ow d) ρ = Q (.ow d) (outP ms ρ) := rfl
theorem retK_nm : retK ms Q (.nm i) ρ = retO ρ[i]? i ms Q ρ := rfl
theorem retO_fz : retO (some (.fz d)) i ms Q ρ = Q (.fz d) (outP ms ρ) := rfl
theorem retO_ow : retO (some (.ow d)) i ms Q ρ = if ms.length ≤ i then Q (.ow d) (outP ms ρ) else Q (.fz d) (outP ms (ρ.set i (.fz d))) := rfl
theorem retO_lk : retO (some (.lk d)) i ms Q ρ = Q (.fz d) (outP ms (ρ.set i (.fz d))) := rfl
theorem wM_run' {n : Nat} {body : DS} : wM (runDef ms n body) ρ Q = wS body (ρ ++ List.replicate (n - ρ.length) .em) (fun ρ' => Q (.fz .none) (outP ms ρ')) (retK ms Q) nope nope := by
  rw [wM_def, wS_def]; exact vM_run
/-- a spec by an equation -/
theorem run_eq {n : Nat} {body : DS} {r : Rs} {out : List Sl} (h : wS body (ρ ++ List.replicate (n - ρ.length) .em) (fun ρ' => .fz .none = r ∧ outP ms ρ' = out) (retK ms fun b ρ1 => b = r ∧ ρ1 = out) nope nope) : runDef ms n body ρ = .ok r out :=
  wM_eq (by rw [wM_run']; exact h)
theorem setR_fz (h : i < ρ.length) : setR i (.fz d) ρ = some (ρ.set i (.fz d)) := if_pos h
theorem setR_ow (h : i < ρ.length) : setR i (.ow d) ρ = some (ρ.set i (.ow d)) := if_pos h
def setK (o : Option Sl) (i j : Nat) (ρ : List Sl) : Option (List Sl) := match o with
  | some (.fz d) => if i < ρ.length then some (ρ.set i (.fz d)) else none
  | some (.ow d) => if i < ρ.length then some ((ρ.set j (.fz d)).set i (.fz d)) else none
  | some (.lk d) => if i < ρ.length then some ((ρ.set j (.fz d)).set i (.fz d)) else none
  | _ => none
theorem setR_nm {j : Nat} : setR i (.nm j) ρ = setK ρ[j]? i j ρ := by
  unfold setR setK frz
  simp only
  cases ρ[j]? with
  | none => simp
  | some s => cases s <;> simp
theorem setK_fz {j : Nat} (h : i < ρ.length) : setK (some (.fz d)) i j ρ = some (ρ.set i (.fz d)) := if_pos h
theorem setK_ow {j : Nat} (h : i < ρ.length) : setK (some (.ow d)) i j ρ = some ((ρ.set j (.fz d)).set i (.fz d)) := if_pos h
theorem setK_lk {j : Nat} (h : i < ρ.length) : setK (some (.lk d)) i j ρ = some ((ρ.set j (.fz d)).set i (.fz d)) := if_pos h
theorem gN_ok (h : i < ρ.length) : gN i d ρ = some (ρ.set i (.fz d)) := if_pos h
theorem wO_gsC {g : DG} {gs : DGs} {ds : List D} : wO (gsC g gs (d :: ds) ρ) N = wO (g d ρ) fun ρ1 => wO (gs ds ρ1) N := by
  rw [wO_def, wO_def]
  show vO (match g d ρ with | some ρ' => gs ds ρ' | none => none) N = _
  cases g d ρ with
  | none => rfl
  | some ρ1 => show _ = wO _ _; rw [wO_def]
theorem gT_ok {gs : DGs} {ds : List D} {n : Nat} (h : ds.length = n) : gT n gs (.tuple ds) ρ = gs ds ρ := if_pos h
theorem gsN_ok : gsN [] ρ = some ρ := rfl
theorem setQs_nil : setQs [] [] ρ = some ρ := rfl
theorem setQs_fz {is : List Nat} {rs : List Rs} (h : i < ρ.length) : setQs (i :: is) (.fz d :: rs) ρ = setQs is rs (ρ.set i (.fz d)) := by
  show (match setQ i (.fz d) ρ with | some ρ' => setQs is rs ρ' | none => none) = _
  rw [show setQ i (.fz d) ρ = some (ρ.set i (.fz d)) from if_pos h]
theorem setQs_ow {is : List Nat} {rs : List Rs} (h : i < ρ.length) : setQs (i :: is) (.ow d :: rs) ρ = setQs is rs (ρ.set i (.ow d)) := by
  show (match setQ i (.ow d) ρ with | some ρ' => setQs is rs ρ' | none => none) = _
  rw [show setQ i (.ow d) ρ = some (ρ.set i (.ow d)) from if_pos h]
theorem outP_t {bs : List Bool} {s : Sl} {ss : List Sl} : outP (true :: bs) (s :: ss) = s :: outP bs ss := rfl
theorem outP_f {bs : List Bool} {s : Sl} {ss : List Sl} : outP (false :: bs) (s :: ss) = .em :: outP bs ss := rfl
theorem outP_n {ss : List Sl} : outP [] ss = [] := by cases ss <;> rfl
def wkO (o : Option Sl) (i : Nat) (ρ : List Sl) (Q : Wk → List Sl → Prop) (_ : Tag Q := .mk) : Prop := match o with
  | some (.fz d) => wO (seqItems d) fun ds => Q (ds, none) ρ
  | some (.ow d) => wO (seqItems d) fun ds => Q (ds, some i) (ρ.set i (.lk d))
  | some (.lk d) => wO (seqItems d) fun ds => Q (ds, none) ρ
  | _ => False
theorem vO_map {α β : Type} {o : Option α} {f : α → β} {Q : β → Prop} : vO (o.map f) Q = vO o fun a => Q (f a) := by cases o <;> rfl
theorem wk_nm {i : Nat} {Q : Wk → List Sl → Prop} : wM (dWk (pr (.nm i))) ρ Q = wkO ρ[i]? i ρ Q := by
  have hb : ∀ (k : Rs → M Wk), bd (pr (.nm i)) k ρ = k (.nm i) ρ := fun _ => rfl
  rw [wM_def]
  unfold vM dWk wkO
  simp only [wO_def]
  rw [hb]
  dsimp only
  cases ρ[i]? with
  | none => rfl
  | some s =>
    cases s with
    | em => rfl
    | fz d => exact Eq.trans (vM_opt (o := (seqItems d).map fun ds => (ds, (none : Option Nat)))) vO_map
    | ow d => exact Eq.trans (vM_opt (o := (seqItems d).map fun ds => (ds, some i))) vO_map
    | lk d => exact Eq.trans (vM_opt (o := (seqItems d).map fun ds => (ds, (none : Option Nat)))) vO_map
theorem wkO_fz {i : Nat} {d : D} {Q : Wk → List Sl → Prop} : wkO (some (.fz d)) i ρ Q = wO (seqItems d) fun ds => Q (ds, none) ρ := rfl
theorem wkO_ow {i : Nat} {d : D} {Q : Wk → List Sl → Prop} : wkO (some (.ow d)) i ρ Q = wO (seqItems d) fun ds => Q (ds, some i) (ρ.set i (.lk d)) := rfl
theorem wkO_lk {i : Nat} {d : D} {Q : Wk → List Sl → Prop} : wkO (some (.lk d)) i ρ Q = wO (seqItems d) fun ds => Q (ds, none) ρ := rfl
theorem wk_fz {d : D} {Q : Wk → List Sl → Prop} : wM (dWk (pr (.fz d))) ρ Q = wO (seqItems d) fun ds => Q (ds, none) ρ := by
  rw [wM_def, wO_def]; exact Eq.trans (vM_opt (o := (seqItems d).map fun ds => (ds, (none : Option Nat)))) vO_map
theorem wk_ow {d : D} {Q : Wk → List Sl → Prop} : wM (dWk (pr (.ow d))) ρ Q = wO (seqItems d) fun ds => Q (ds, none) ρ := by
  rw [wM_def, wO_def]; exact Eq.trans (vM_opt (o := (seqItems d).map fun ds => (ds, (none : Option Nat)))) vO_map
theorem wM_wkE {f : M Rs} {Q : Wk → List Sl → Prop} : wM (dWk f) ρ Q = wM f ρ fun r ρ1 => wM (dWk (pr r)) ρ1 Q := by
  simp only [wM_def]; exact vM_wk
theorem wM_wkV {i : Nat} {Q : Wk → List Sl → Prop} : wM (dWk (dVar i)) ρ Q = wM (dVar i) ρ fun r ρ1 => wM (dWk (pr r)) ρ1 Q := wM_wkE
theorem wM_wkT {f : M (List Rs)} {Q : Wk → List Sl → Prop} : wM (dWk (dTup f)) ρ Q = wM (dTup f) ρ fun r ρ1 => wM (dWk (pr r)) ρ1 Q := wM_wkE
theorem wM_wkL {f : M (List Rs)} {Q : Wk → List Sl → Prop} : wM (dWk (dLst f)) ρ Q = wM (dLst f) ρ fun r ρ1 => wM (dWk (pr r)) ρ1 Q := wM_wkE
theorem wM_wk2 {g : G2} {fa fb : M Rs} {Q : Wk → List Sl → Prop} : wM (dWk (dOp2 g fa fb)) ρ Q = wM (dOp2 g fa fb) ρ fun r ρ1 => wM (dWk (pr r)) ρ1 Q := wM_wkE
theorem wM_wkB {g : List D → Option Rs} {f : M (List Rs)} {Q : Wk → List Sl → Prop} : wM (dWk (dB g f)) ρ Q = wM (dB g f) ρ fun r ρ1 => wM (dWk (pr r)) ρ1 Q := wM_wkE
theorem wM_wkC {ls : List Bool} {s : M Rs} {f : M (List Rs)} {Q : Wk → List Sl → Prop} : wM (dWk (dCall ls s f)) ρ Q = wM (dCall ls s f) ρ fun r ρ1 => wM (dWk (pr r)) ρ1 Q := wM_wkE
theorem items_l {ds : List D} : seqItems (.list ds) = some ds := rfl
theorem items_t {ds : List D} : seqItems (.tuple ds) = some ds := rfl
def rng1 : List D → Option Wk
  | [.int j] => if -(2 ^ 62) ≤ j ∧ j < 2 ^ 62 then some ((List.range j.toNat).map fun k => .int (k : Nat), none) else none
  | _ => none
def rng2 : List D → Option Wk
  | [.int i, .int j] => if -(2 ^ 62) ≤ i ∧ i < 2 ^ 62 ∧ -(2 ^ 62) ≤ j ∧ j < 2 ^ 62 then some ((List.range (j - i).toNat).map fun k => .int (i + (k : Nat)), none) else none
  | _ => none
theorem wM_rng1 {f : M (List Rs)} {Q : Wk → List Sl → Prop} : wM (dRng1 f) ρ Q = wM f ρ fun rs ρ1 => wM (lookA rs) ρ1 fun ds ρ2 => wO (rng1 ds) fun p => Q p ρ2 := by
  simp only [wM_def, wO_def]; unfold dRng1; simp only [vM_bd, vM_opt]; rfl
theorem wM_rng2 {f : M (List Rs)} {Q : Wk → List Sl → Prop} : wM (dRng2 f) ρ Q = wM f ρ fun rs ρ1 => wM (lookA rs) ρ1 fun ds ρ2 => wO (rng2 ds) fun p => Q p ρ2 := by
  simp only [wM_def, wO_def]; unfold dRng2; simp only [vM_bd, vM_opt]; rfl
theorem rng1_ok {j : Int} (h1 : -4611686018427387904 ≤ j) (h2 : j < 4611686018427387904) : rng1 [.int j] = some ((List.range j.toNat).map fun k => .int (k : Nat), none) := if_pos ⟨h1, h2⟩
theorem rng2_ok {i j : Int} (h0 : -4611686018427387904 ≤ i) (h3 : i < 4611686018427387904) (h1 : -4611686018427387904 ≤ j) (h2 : j < 4611686018427387904) : rng2 [.int i, .int j] = some ((List.range (j - i).toNat).map fun k => .int (i + (k : Nat)), none) := if_pos ⟨h0, h3, h1, h2⟩
def unlK (o : Option Sl) (i : Nat) (ρ : List Sl) : List Sl := match o with
  | some (.lk d) => ρ.set i (.ow d)
  | _ => ρ
theorem unl_some {i : Nat} : unl (some i) ρ = unlK ρ[i]? i ρ := by
  unfold unl unlK; rfl
theorem unlK_lk {i : Nat} {d : D} : unlK (some (.lk d)) i ρ = ρ.set i (.ow d) := rfl
theorem unl_none : unl none ρ = ρ := rfl
/-! ### tests and choices -/
theorem wM_not {t : M Bool} {Q : Bool → List Sl → Prop} : wM (dNot t) ρ Q = wM t ρ fun b ρ1 => Q (!b) ρ1 := by
  simp only [wM_def, wO_def]; unfold dNot; simp only [vM_bd, vM_opt, vM_ite, vM_pr]
theorem wM_tru {f : M Rs} {Q : Bool → List Sl → Prop} : wM (dTru f) ρ Q = wM f ρ fun r ρ1 => wM (look r) ρ1 fun d ρ2 => wO (tru d) fun b => Q b ρ2 := by
  simp only [wM_def, wO_def]; unfold dTru; simp only [vM_bd, vM_opt, vM_ite, vM_pr]
theorem wM_and {a b : M Bool} {Q : Bool → List Sl → Prop} : wM (dAnd a b) ρ Q = wM a ρ fun k ρ1 => if k = true then wM b ρ1 Q else Q false ρ1 := by
  simp only [wM_def, wO_def]; unfold dAnd; simp only [vM_bd, vM_opt, vM_ite, vM_pr]
theorem wM_or {a b : M Bool} {Q : Bool → List Sl → Prop} : wM (dOr a b) ρ Q = wM a ρ fun k ρ1 => if k = true then Q true ρ1 else wM b ρ1 Q := by
  simp only [wM_def, wO_def]; unfold dOr; simp only [vM_bd, vM_opt, vM_ite, vM_pr]
theorem wM_andV {a b : M Rs} {Q : Rs → List Sl → Prop} : wM (dAndV a b) ρ Q = wM a ρ fun r ρ1 => wM (look r) ρ1 fun d ρ2 => wO (tru d) fun k => if k = true then wM b ρ2 Q else wM (frz r) ρ2 fun d ρ3 => Q (.fz d) ρ3 := by
  simp only [wM_def, wO_def]; unfold dAndV; simp only [vM_bd, vM_opt, vM_ite, vM_pr]
theorem wM_orV {a b : M Rs} {Q : Rs → List Sl → Prop} : wM (dOrV a b) ρ Q = wM a ρ fun r ρ1 => wM (look r) ρ1 fun d ρ2 => wO (tru d) fun k => if k = true then wM (frz r) ρ2 (fun d ρ3 => Q (.fz d) ρ3) else wM b ρ2 Q := by
  simp only [wM_def, wO_def]; unfold dOrV; simp only [vM_bd, vM_opt, vM_ite, vM_pr]
theorem wM_notV {a : M Rs} {Q : Rs → List Sl → Prop} : wM (dNotV a) ρ Q = wM a ρ fun r ρ1 => wM (look r) ρ1 fun d ρ2 => wO (tru d) fun k => Q (.fz (.bool (!k))) ρ2 := by
  simp only [wM_def, wO_def]; unfold dNotV; simp only [vM_bd, vM_opt, vM_ite, vM_pr]
theorem wM_ifE {c : M Bool} {a b : M Rs} {Q : Rs → List Sl → Prop} : wM (dIfE c a b) ρ Q = wM c ρ fun k ρ1 => if k = true then wM a ρ1 Q else wM b ρ1 Q := by
  simp only [wM_def, wO_def]; unfold dIfE; simp only [vM_bd, vM_opt, vM_ite, vM_pr]
theorem wM_chain {g g' : D → D → Option Bool} {fa fb fc : M Rs} {Q : Rs → List Sl → Prop} : wM (dChain g g' fa fb fc) ρ Q = wM fa ρ fun ra ρ1 => wM fb ρ1 fun rb ρ2 => wM (look ra) ρ2 fun da ρ3 => wM (look rb) ρ3 fun db ρ4 => wO (g da db) fun k =>
    if k = true then wM fc ρ4 fun rc ρ5 => wM (look rb) ρ5 fun db ρ6 => wM (look rc) ρ6 fun dc ρ7 => wO (g' db dc) fun k => Q (.fz (.bool k)) ρ7 else Q (.fz (.bool false)) ρ4 := by
  simp only [wM_def, wO_def]; unfold dChain; simp only [vM_bd, vM_opt, vM_ite, vM_pr]
theorem wM_chainT {g g' : D → D → Option Bool} {fa fb fc : M Rs} {Q : Bool → List Sl → Prop} : wM (dChainT g g' fa fb fc) ρ Q = wM fa ρ fun ra ρ1 => wM fb ρ1 fun rb ρ2 => wM (look ra) ρ2 fun da ρ3 => wM (look rb) ρ3 fun db ρ4 => wO (g da db) fun k =>
    if k = true then wM fc ρ4 fun rc ρ5 => wM (look rb) ρ5 fun db ρ6 => wM (look rc) ρ6 fun dc ρ7 => wO (g' db dc) fun k => Q k ρ7 else Q false ρ4 := by
  simp only [wM_def, wO_def]; unfold dChainT; simp only [vM_bd, vM_opt, vM_ite, vM_pr]
theorem wM_dispN {ps : List (M Rs × M Rs)} {Q : Rs → List Sl → Prop} : wM (dDisp ps) ρ Q = wM (dPairs ps) ρ fun krs ρ1 => wM (frzA (krs.map (·.2))) ρ1 fun ds ρ2 => krs.length ≤ 15 ∧ Q (.ow (.dict ((List.zip (krs.map (·.1)) ds).foldl (fun acc kv => dput kv.1 kv.2 acc) []))) ρ2 := by
  simp only [wM_def]; unfold dDisp; simp only [vM_bd]
  congr 1; funext krs ρ1; congr 1; funext ds ρ2
  by_cases h : krs.length ≤ 15
  · rw [if_pos h]; simp only [vM_pr, h, true_and]
  · rw [if_neg h]; exact propext ⟨fun z => (vM_iff.mp z).elim fun a ⟨_, e, _⟩ => (nomatch e), fun z => (h z.1).elim⟩
theorem wM_pairs0 {Q : List (Key × Rs) → List Sl → Prop} : wM (dPairs []) ρ Q = Q [] ρ := wM_pr
theorem wM_pairs {p : M Rs × M Rs} {ps : List (M Rs × M Rs)} {Q : List (Key × Rs) → List Sl → Prop} : wM (dPairs (p :: ps)) ρ Q = wM (dKey p.1) ρ fun k ρ1 => wM p.2 ρ1 fun r ρ2 => wM (dPairs ps) ρ2 fun rs ρ3 => Q ((k, r) :: rs) ρ3 := by
  simp only [wM_def]
  conv => lhs; unfold dPairs
  simp only [vM_bd, vM_pr]
theorem wM_new {Q : Rs → List Sl → Prop} : wM dNew ρ Q = Q (.ow (.dict [])) ρ := wM_pr
theorem tru_b {b : Bool} : tru (.bool b) = some b := rfl
theorem tru_n : tru .none = some false := rfl
theorem tru_l {ds : List D} : tru (.list ds) = some (!ds.isEmpty) := rfl
theorem tru_t {ds : List D} : tru (.tuple ds) = some (!ds.isEmpty) := rfl
theorem key_i {i : Int} : keyOf (.int i) = some (.inl i) := rfl
theorem key_s {x : Str} : keyOf (.str x) = some (.inr x) := rfl
theorem gIAdd_ii {i j : Int} : gIAdd (.int i) (.int j) = some (.fz (.int (i + j))) := rfl
theorem gISub_ii {i j : Int} : gISub (.int i) (.int j) = some (.fz (.int (i - j))) := rfl
def callR (r : R Rs) (rs : List Rs) (ρ : List Sl) (Q : Rs → List Sl → Prop) (_ : Tag Q := .mk) : Prop := match r with
  | .ok (.fz d) ρp => Q (.fz d) (wb rs ρp ρ)
  | .ok (.ow d) ρp => Q (.ow d) (wb rs ρp ρ)
  | _ => False
theorem callK_R {sem : M Rs} {rs : List Rs} {Q : Rs → List Sl → Prop} : callK sem rs ρ Q = callR (sem (rs.map (slotOf ρ))) rs ρ Q := by
  unfold callK callR vR
  cases sem (rs.map (slotOf ρ)) with
  | bad => rfl
  | ok r ρp => cases r <;> rfl
theorem callR_fz {rs : List Rs} {d : D} {ρp : List Sl} {Q : Rs → List Sl → Prop} : callR (.ok (.fz d) ρp) rs ρ Q = Q (.fz d) (wb rs ρp ρ) := rfl
theorem callR_ow {rs : List Rs} {d : D} {ρp : List Sl} {Q : Rs → List Sl → Prop} : callR (.ok (.ow d) ρp) rs ρ Q = Q (.ow d) (wb rs ρp ρ) := rfl
theorem rest_nil {ρ' : List Sl} : restore [] ρ ρ' = ρ' := rfl
def restK (o : Option Sl) (i : Nat) (ρ : List Sl) : List Sl := match o with
  | some s => ρ.set i s
  | none => ρ
theorem rest_cons {i : Nat} {is : List Nat} {ρ' : List Sl} : restore (i :: is) ρ ρ' = restK ρ[i]? i (restore is ρ ρ') := by
  conv => lhs; unfold restore
  cases ρ[i]? <;> rfl
theorem restK_some {i : Nat} {s : Sl} : restK (some s) i ρ = ρ.set i s := rfl
theorem wipe_nil : wipeR [] ρ = ρ := rfl
theorem wipe_cons {i : Nat} {is : List Nat} : wipeR (i :: is) ρ = (wipeR is ρ).set i .em := rfl
/-! ### loops, what is walked told apart -/
theorem wS_forI {w : M Wk} {g : DG} {body : DS} {ds : List D} {l : Option Nat} {ρ1 : List Sl} (hw : wM w ρ fun p ρ2 => p = (ds, l) ∧ ρ2 = ρ1) (I : Nat → List Sl → Prop) (h0 : I 0 ρ1)
    (st : ∀ k d ρ, ds[k]? = some d → I k ρ → wO (g d ρ) fun ρ2 => wS body ρ2 (I (k + 1)) (fun r ρ => T r (unl l ρ)) (fun ρ => N (unl l ρ)) (I (k + 1))) (fin : ∀ ρ, I ds.length ρ → N (unl l ρ)) : wS (dFor w g body) ρ N T B C :=
  wS_for (wM_mono hw fun p ρ2 ⟨e1, e2⟩ => by subst e1; subst e2; exact ⟨I, h0, st, fin⟩)
theorem filter_yes {α : Type} (xs : List α) : xs.filter (fun _ => true) = xs := by simp
theorem at_map {α : Type} {enc : α → D} {xs : List α} {k : Nat} {d : D} (h : (xs.map enc)[k]? = some d) : ∃ hk : k < xs.length, d = enc xs[k] := by
  rw [List.getElem?_map] at h
  rcases Nat.lt_or_ge k xs.length with z | z
  · rw [List.getElem?_eq_getElem z] at h; cases h; exact ⟨z, rfl⟩
  · rw [List.getElem?_eq_none z] at h; cases h
theorem at_rng {n k : Nat} {d : D} {f : Nat → D} (h : ((List.range n).map f)[k]? = some d) : k < n ∧ d = f k := by
  obtain ⟨hk, e⟩ := at_map h
  rw [List.getElem_range] at e
  exact ⟨by simpa using hk, e⟩
end
end DL
/-! what the laws draw: the same in every law -/
namespace DL
open PySem L2
def drawsB : DS :=
 (dSeq (dSet 2 (dLst dNil))
 (dSeq (dSet 3 (dC (.int 7)))
 (dSeq (dFor (dRng1 (dCons (dB gLen (dCons (dVar 0) dNil)) dNil)) (gN 4)
 ((dSeq (dSet 5 (dB gAbs (dCons (dB gInt (dCons (dOp2 gIx (dVar 0) (dVar 4)) dNil)) dNil)))
 (dSeq (dSet 3 (dOp2 gMod (dB gInt (dCons (dOp2 gAdd (dOp2 gAdd (dOp2 gMul (dVar 3) (dC (.int 48271))) (dOp2 gMod (dVar 5) (dC (.int 1000003)))) (dVar 4)) dNil)) (dC (.int 65537))))
 (dSeq (dSet 6 (dC (.int 0)))
 (dSeq (dIf (dOp2T gGe (dVar 5) (dOp2 gPow (dC (.int 10)) (dC (.int 18))))
 ((dSet 6 (dVar 5)))
 ((dSeq (dDrop (dMut 2 isLst true gAppend (dCons (dOp2 gMod (dB gInt (dCons (dVar 5) dNil)) (dC (.int 997))) dNil)))
 (dDrop (dMut 2 isLst true gAppend (dCons (dOp2 gMod (dOp2 gMod (dB gInt (dCons (dOp2 gAdd (dOp2 gMul (dVar 3) (dC (.int 69621))) (dC (.int 5))) dNil)) (dC (.int 65521))) (dC (.int 997))) dNil))))))
 (dFor (dRng1 (dCons (dC (.int 60)) dNil)) (gN 7)
 ((dIf (dOp2T gGt (dVar 6) (dC (.int 0)))
 ((dSeq (dDrop (dMut 2 isLst true gAppend (dCons (dOp2 gMod (dB gInt (dCons (dVar 6) dNil)) (dC (.int 997))) dNil)))
 (dSet 6 (dOp2 gDiv (dVar 6) (dC (.int 997))))))
 (dPass))))))))))
 (dSeq (dFor (dRng1 (dCons (dVar 1) dNil)) (gN 4)
 ((dSeq (dSet 3 (dOp2 gMod (dB gInt (dCons (dOp2 gAdd (dOp2 gAdd (dOp2 gMul (dVar 3) (dC (.int 16807))) (dVar 4)) (dC (.int 1))) dNil)) (dC (.int 65537))))
 (dDrop (dMut 2 isLst true gAppend (dCons (dOp2 gMod (dB gInt (dCons (dVar 3) dNil)) (dC (.int 997))) dNil))))))
 (dRet (dSl (dVar 2) dNoP (dPart (dVar 1))))))))
def nextB : DS :=
 (dSeq (dAugS gIAdd 0 (dC (.str "at")) (dC (.int 1)))
 (dSeq (dIf (dOp2T gGt (dOp2 gIx (dVar 0) (dC (.str "at"))) (dB gLen (dCons (dOp2 gIx (dVar 0) (dC (.str "draws"))) dNil)))
 ((dRet (dC (.int 0))))
 (dPass))
 (dRet (dOp2 gMod (dB gInt (dCons (dOp2 gIx (dOp2 gIx (dVar 0) (dC (.str "draws"))) (dOp2 gSub (dOp2 gIx (dVar 0) (dC (.str "at"))) (dC (.int 1)))) dNil)) (dVar 1)))))
def drawsF : M Rs := runDef [true, true] 8 drawsB
def nextF : M Rs := runDef [true, true] 2 nextB
/-- the drawer: what it holds -/
def Wd (ds : List Int) (at_ : Int) : D := .dict [(.str "draws", .list (ds.map .int)), (.str "at", .int at_)]
def W (ds : List Int) (at_ : Int) : Sl := .ow (Wd ds at_)
theorem ix_draws {ds : List Int} {a : Int} : gIx (Wd ds a) (.str "draws") = some (.fz (.list (ds.map .int))) := rfl
theorem ix_at {ds : List Int} {a : Int} : gIx (Wd ds a) (.str "at") = some (.fz (.int a)) := rfl
theorem get_at {ds : List Int} {a : Int} : gGet (Wd ds a) (kD (.inr "at")) = some (.int a) := rfl
theorem put_at {ds : List Int} {a b : Int} : gPut (Wd ds a) (kD (.inr "at")) (.int b) = some (Wd ds b) := rfl
/-- a draw below m -/
def nx (ds : List Int) (i : Nat) (m : Int) : Int := if h : i < ds.length then ds[i] % m else 0
theorem nx_nonneg {ds : List Int} {i : Nat} {m : Int} (h : 0 < m) : 0 ≤ nx ds i m := by
  unfold nx; split
  · exact Int.emod_nonneg _ (by omega)
  · exact Int.le_refl _
theorem nx_lt {ds : List Int} {i : Nat} {m : Int} (h : 0 < m) : nx ds i m < m := by
  unfold nx; split
  · exact Int.emod_lt_of_pos _ h
  · exact h
theorem next_ok (ds : List Int) (i : Nat) (m : Int) (hm : 0 < m) : nextF [W ds i, .fz (.int m)] = .ok (.fz (.int (nx ds i m))) [W ds (i + 1 : Nat), .fz (.int m)] := by
  apply run_eq
  unfold nextB W
  simp (disch := first | omega | (simp only [List.length_map, List.length_append, List.length_cons, List.length_nil, List.length_set, List.length_range, sizeLine_eq]; done) | (simp only [List.length_map, List.length_append, List.length_cons, List.length_nil, List.length_set, List.length_range, sizeLine_eq]; omega)) only [↓wM_bd, ↓wM_pr, ↓wM_opt, ↓wM_C, ↓wM_var, ↓wM_look_fz, ↓wM_look_ow, ↓wM_look_nm, ↓wM_frz_fz, ↓wM_frz_ow, ↓wM_frz_nm, ↓wM_op2, ↓wM_op2T, ↓wO_gB, ↓wM_op1, ↓wM_nil, ↓wM_cons, ↓wM_frzA0, ↓wM_frzA, ↓wM_lookA0, ↓wM_lookA, ↓wM_tup, ↓wM_lst, ↓wM_B, ↓wM_isi, ↓wM_me, ↓wM_sl, ↓wM_noP, ↓wM_part, ↓wM_key, ↓wM_call, ↓wM_argSA0, ↓wM_argSA, ↓wM_argS_fz, ↓wM_argS_ow, ↓wM_argS_nm, ↓wM_mut, ↓wM_yes, ↓wM_rng1, ↓wM_rng2, ↓wM_wkV, ↓wM_wkT, ↓wM_wkL, ↓wM_wk2, ↓wM_wkB, ↓wM_wkC, ↓wM_not, ↓wM_tru, ↓wM_and, ↓wM_or, ↓wM_andV, ↓wM_orV, ↓wM_notV, ↓wM_ifE, ↓wM_chain, ↓wM_chainT, ↓wM_dispN, ↓wM_pairs0, ↓wM_pairs, ↓wM_new, ↓wO_gsC, ↓wS_seq, ↓wS_pass, ↓wS_brk, ↓wS_cnt, ↓wS_ret, ↓wS_drop, ↓wS_if, ↓wS_set, ↓wS_asg, ↓wS_par, ↓wS_put, ↓wS_augS, ↓wS_aug, ↓wM_run', wO_some, varK_fz, varK_ow, varK_lk, lookK_fz, lookK_ow, lookK_lk, frzK_fz, frzK_ow, frzK_lk, argK_fz, argK_owt, argK_owf, argK_lkt, argK_lkf, mutK_ow', mutO_ow, putK'_ow, getK_ow, fzO_fz, augK_fz, intD_int, retK_fz, retK_ow, retK_nm, retO_fz, retO_ow, retO_lk, setR_fz, setR_ow, setR_nm, setK_fz, setK_ow, setK_lk, tru_b, tru_n, tru_l, tru_t, key_i, key_s, gIAdd_ii, gISub_ii, gPow_18, gN_ok, gsN_ok, gT_ok, setQs_nil, setQs_fz, setQs_ow, outP_t, outP_f, outP_n, wkO_fz, wkO_ow, wkO_lk, wk_fz, wk_ow, wk_nm, items_l, items_t, unl_none, unl_some, unlK_lk, callK_R, callR_fz, callR_ow, rest_nil, rest_cons, restK_some, wipe_nil, wipe_cons, gAdd_ii, gSub_ii, gMul_l, gMul_r, gDiv_ii, gMod_ii, gNeg_i, gEq_ii, gEq_ss, gEq_bb, gNe_ii, gNe_ss, gLt_ii, gLe_ii, gGt_ii, gGe_ii, gIx_l0, gIx_t0, gIx_l1, gIx_t1, gIx_l2, gIx_t2, gIx_t3, gLen_l, gLen_t, gLen_d, gAbs_i, gAppend_l, gExtend_l, gInt_i, gTuple_l, gTuple_t, gList_l, gList_t, gMax_ii, gMin_ii, gSum_l, gIs_none, isLst, isTO, okTy, isT, isOw, List.getElem?_cons_zero, List.getElem?_cons_succ, List.length_cons, List.length_nil, List.cons_append, List.nil_append, List.replicate, List.set_cons_zero, List.set_cons_succ, true_and, and_true, if_true, List.map_cons, List.map_nil, Nat.reduceAdd, Nat.reduceSub, Nat.reduceLT, Nat.reduceLeDiff, List.length_set, List.length_map, List.length_append, List.length_range, reduceIte, reduceDIte, Bool.false_eq_true, slotOf, wb, Option.getD_some, nmOk, heldR, List.all_cons, List.all_nil, List.any_cons, List.any_nil, isNm, Bool.and_true, Bool.true_and, Bool.false_and, Bool.and_false, Bool.not_false, Bool.not_true, Bool.or_false, ix_draws, ix_at, get_at, put_at, decide_eq_true_eq]
  unfold nx
  by_cases h : i < ds.length
  · have e : ((i : Int) + 1 - 1) = (i : Nat) := by omega
    have e2 : ((i + 1 : Nat) : Int) = (i : Int) + 1 := by omega
    simp (disch := first | omega | (simp only [List.length_map, List.length_append, List.length_cons, List.length_nil, List.length_set, List.length_range, sizeLine_eq]; done) | (simp only [List.length_map, List.length_append, List.length_cons, List.length_nil, List.length_set, List.length_range, sizeLine_eq]; omega)) only [↓wM_bd, ↓wM_pr, ↓wM_opt, ↓wM_C, ↓wM_var, ↓wM_look_fz, ↓wM_look_ow, ↓wM_look_nm, ↓wM_frz_fz, ↓wM_frz_ow, ↓wM_frz_nm, ↓wM_op2, ↓wM_op2T, ↓wO_gB, ↓wM_op1, ↓wM_nil, ↓wM_cons, ↓wM_frzA0, ↓wM_frzA, ↓wM_lookA0, ↓wM_lookA, ↓wM_tup, ↓wM_lst, ↓wM_B, ↓wM_isi, ↓wM_me, ↓wM_sl, ↓wM_noP, ↓wM_part, ↓wM_key, ↓wM_call, ↓wM_argSA0, ↓wM_argSA, ↓wM_argS_fz, ↓wM_argS_ow, ↓wM_argS_nm, ↓wM_mut, ↓wM_yes, ↓wM_rng1, ↓wM_rng2, ↓wM_wkV, ↓wM_wkT, ↓wM_wkL, ↓wM_wk2, ↓wM_wkB, ↓wM_wkC, ↓wM_not, ↓wM_tru, ↓wM_and, ↓wM_or, ↓wM_andV, ↓wM_orV, ↓wM_notV, ↓wM_ifE, ↓wM_chain, ↓wM_chainT, ↓wM_dispN, ↓wM_pairs0, ↓wM_pairs, ↓wM_new, ↓wO_gsC, ↓wS_seq, ↓wS_pass, ↓wS_brk, ↓wS_cnt, ↓wS_ret, ↓wS_drop, ↓wS_if, ↓wS_set, ↓wS_asg, ↓wS_par, ↓wS_put, ↓wS_augS, ↓wS_aug, ↓wM_run', wO_some, varK_fz, varK_ow, varK_lk, lookK_fz, lookK_ow, lookK_lk, frzK_fz, frzK_ow, frzK_lk, argK_fz, argK_owt, argK_owf, argK_lkt, argK_lkf, mutK_ow', mutO_ow, putK'_ow, getK_ow, fzO_fz, augK_fz, intD_int, retK_fz, retK_ow, retK_nm, retO_fz, retO_ow, retO_lk, setR_fz, setR_ow, setR_nm, setK_fz, setK_ow, setK_lk, tru_b, tru_n, tru_l, tru_t, key_i, key_s, gIAdd_ii, gISub_ii, gPow_18, gN_ok, gsN_ok, gT_ok, setQs_nil, setQs_fz, setQs_ow, outP_t, outP_f, outP_n, wkO_fz, wkO_ow, wkO_lk, wk_fz, wk_ow, wk_nm, items_l, items_t, unl_none, unl_some, unlK_lk, callK_R, callR_fz, callR_ow, rest_nil, rest_cons, restK_some, wipe_nil, wipe_cons, gAdd_ii, gSub_ii, gMul_l, gMul_r, gDiv_ii, gMod_ii, gNeg_i, gEq_ii, gEq_ss, gEq_bb, gNe_ii, gNe_ss, gLt_ii, gLe_ii, gGt_ii, gGe_ii, gIx_l0, gIx_t0, gIx_l1, gIx_t1, gIx_l2, gIx_t2, gIx_t3, gLen_l, gLen_t, gLen_d, gAbs_i, gAppend_l, gExtend_l, gInt_i, gTuple_l, gTuple_t, gList_l, gList_t, gMax_ii, gMin_ii, gSum_l, gIs_none, isLst, isTO, okTy, isT, isOw, List.getElem?_cons_zero, List.getElem?_cons_succ, List.length_cons, List.length_nil, List.cons_append, List.nil_append, List.replicate, List.set_cons_zero, List.set_cons_succ, true_and, and_true, if_true, List.map_cons, List.map_nil, Nat.reduceAdd, Nat.reduceSub, Nat.reduceLT, Nat.reduceLeDiff, List.length_set, List.length_map, List.length_append, List.length_range, reduceIte, reduceDIte, Bool.false_eq_true, slotOf, wb, Option.getD_some, nmOk, heldR, List.all_cons, List.all_nil, List.any_cons, List.any_nil, isNm, Bool.and_true, Bool.true_and, Bool.false_and, Bool.and_false, Bool.not_false, Bool.not_true, Bool.or_false, if_neg (show ¬ ((ds.length : Int) < i + 1) by omega), e, e2, gIx_lm, h]
  · have e2 : ((i + 1 : Nat) : Int) = (i : Int) + 1 := by omega
    simp (disch := first | omega | (simp only [List.length_map, List.length_append, List.length_cons, List.length_nil, List.length_set, List.length_range, sizeLine_eq]; done) | (simp only [List.length_map, List.length_append, List.length_cons, List.length_nil, List.length_set, List.length_range, sizeLine_eq]; omega)) only [↓wM_bd, ↓wM_pr, ↓wM_opt, ↓wM_C, ↓wM_var, ↓wM_look_fz, ↓wM_look_ow, ↓wM_look_nm, ↓wM_frz_fz, ↓wM_frz_ow, ↓wM_frz_nm, ↓wM_op2, ↓wM_op2T, ↓wO_gB, ↓wM_op1, ↓wM_nil, ↓wM_cons, ↓wM_frzA0, ↓wM_frzA, ↓wM_lookA0, ↓wM_lookA, ↓wM_tup, ↓wM_lst, ↓wM_B, ↓wM_isi, ↓wM_me, ↓wM_sl, ↓wM_noP, ↓wM_part, ↓wM_key, ↓wM_call, ↓wM_argSA0, ↓wM_argSA, ↓wM_argS_fz, ↓wM_argS_ow, ↓wM_argS_nm, ↓wM_mut, ↓wM_yes, ↓wM_rng1, ↓wM_rng2, ↓wM_wkV, ↓wM_wkT, ↓wM_wkL, ↓wM_wk2, ↓wM_wkB, ↓wM_wkC, ↓wM_not, ↓wM_tru, ↓wM_and, ↓wM_or, ↓wM_andV, ↓wM_orV, ↓wM_notV, ↓wM_ifE, ↓wM_chain, ↓wM_chainT, ↓wM_dispN, ↓wM_pairs0, ↓wM_pairs, ↓wM_new, ↓wO_gsC, ↓wS_seq, ↓wS_pass, ↓wS_brk, ↓wS_cnt, ↓wS_ret, ↓wS_drop, ↓wS_if, ↓wS_set, ↓wS_asg, ↓wS_par, ↓wS_put, ↓wS_augS, ↓wS_aug, ↓wM_run', wO_some, varK_fz, varK_ow, varK_lk, lookK_fz, lookK_ow, lookK_lk, frzK_fz, frzK_ow, frzK_lk, argK_fz, argK_owt, argK_owf, argK_lkt, argK_lkf, mutK_ow', mutO_ow, putK'_ow, getK_ow, fzO_fz, augK_fz, intD_int, retK_fz, retK_ow, retK_nm, retO_fz, retO_ow, retO_lk, setR_fz, setR_ow, setR_nm, setK_fz, setK_ow, setK_lk, tru_b, tru_n, tru_l, tru_t, key_i, key_s, gIAdd_ii, gISub_ii, gPow_18, gN_ok, gsN_ok, gT_ok, setQs_nil, setQs_fz, setQs_ow, outP_t, outP_f, outP_n, wkO_fz, wkO_ow, wkO_lk, wk_fz, wk_ow, wk_nm, items_l, items_t, unl_none, unl_some, unlK_lk, callK_R, callR_fz, callR_ow, rest_nil, rest_cons, restK_some, wipe_nil, wipe_cons, gAdd_ii, gSub_ii, gMul_l, gMul_r, gDiv_ii, gMod_ii, gNeg_i, gEq_ii, gEq_ss, gEq_bb, gNe_ii, gNe_ss, gLt_ii, gLe_ii, gGt_ii, gGe_ii, gIx_l0, gIx_t0, gIx_l1, gIx_t1, gIx_l2, gIx_t2, gIx_t3, gLen_l, gLen_t, gLen_d, gAbs_i, gAppend_l, gExtend_l, gInt_i, gTuple_l, gTuple_t, gList_l, gList_t, gMax_ii, gMin_ii, gSum_l, gIs_none, isLst, isTO, okTy, isT, isOw, List.getElem?_cons_zero, List.getElem?_cons_succ, List.length_cons, List.length_nil, List.cons_append, List.nil_append, List.replicate, List.set_cons_zero, List.set_cons_succ, true_and, and_true, if_true, List.map_cons, List.map_nil, Nat.reduceAdd, Nat.reduceSub, Nat.reduceLT, Nat.reduceLeDiff, List.length_set, List.length_map, List.length_append, List.length_range, reduceIte, reduceDIte, Bool.false_eq_true, slotOf, wb, Option.getD_some, nmOk, heldR, List.all_cons, List.all_nil, List.any_cons, List.any_nil, isNm, Bool.and_true, Bool.true_and, Bool.false_and, Bool.and_false, Bool.not_false, Bool.not_true, Bool.or_false, if_pos (show ((ds.length : Int) < i + 1) by omega), h, e2]
set_option maxHeartbeats 2000000
theorem draws_ok (script : List Int) (hs : script.length ≤ 63) (many : Nat) (hm : many ≤ 100000) : ∃ ds : List Int, drawsF [.fz (.list (script.map .int)), .fz (.int many)] = .ok (.ow (.list (ds.map .int))) [.fz (.list (script.map .int)), .fz (.int many)] := by
  have key : wM drawsF [.fz (.list (script.map .int)), .fz (.int many)] fun r ρ => ∃ ds : List Int, r = .ow (.list (ds.map .int)) ∧ ρ = [.fz (.list (script.map .int)), .fz (.int many)] := by
    unfold drawsF drawsB
    simp (disch := first | omega | (simp only [List.length_map, List.length_append, List.length_cons, List.length_nil, List.length_set, List.length_range, sizeLine_eq]; done) | (simp only [List.length_map, List.length_append, List.length_cons, List.length_nil, List.length_set, List.length_range, sizeLine_eq]; omega)) only [↓wM_bd, ↓wM_pr, ↓wM_opt, ↓wM_C, ↓wM_var, ↓wM_look_fz, ↓wM_look_ow, ↓wM_look_nm, ↓wM_frz_fz, ↓wM_frz_ow, ↓wM_frz_nm, ↓wM_op2, ↓wM_op2T, ↓wO_gB, ↓wM_op1, ↓wM_nil, ↓wM_cons, ↓wM_frzA0, ↓wM_frzA, ↓wM_lookA0, ↓wM_lookA, ↓wM_tup, ↓wM_lst, ↓wM_B, ↓wM_isi, ↓wM_me, ↓wM_sl, ↓wM_noP, ↓wM_part, ↓wM_key, ↓wM_call, ↓wM_argSA0, ↓wM_argSA, ↓wM_argS_fz, ↓wM_argS_ow, ↓wM_argS_nm, ↓wM_mut, ↓wM_yes, ↓wM_rng1, ↓wM_rng2, ↓wM_wkV, ↓wM_wkT, ↓wM_wkL, ↓wM_wk2, ↓wM_wkB, ↓wM_wkC, ↓wM_not, ↓wM_tru, ↓wM_and, ↓wM_or, ↓wM_andV, ↓wM_orV, ↓wM_notV, ↓wM_ifE, ↓wM_chain, ↓wM_chainT, ↓wM_dispN, ↓wM_pairs0, ↓wM_pairs, ↓wM_new, ↓wO_gsC, ↓wS_seq, ↓wS_pass, ↓wS_brk, ↓wS_cnt, ↓wS_ret, ↓wS_drop, ↓wS_if, ↓wS_set, ↓wS_asg, ↓wS_par, ↓wS_put, ↓wS_augS, ↓wS_aug, ↓wM_run', wO_some, varK_fz, varK_ow, varK_lk, lookK_fz, lookK_ow, lookK_lk, frzK_fz, frzK_ow, frzK_lk, argK_fz, argK_owt, argK_owf, argK_lkt, argK_lkf, mutK_ow', mutO_ow, putK'_ow, getK_ow, fzO_fz, augK_fz, intD_int, retK_fz, retK_ow, retK_nm, retO_fz, retO_ow, retO_lk, setR_fz, setR_ow, setR_nm, setK_fz, setK_ow, setK_lk, tru_b, tru_n, tru_l, tru_t, key_i, key_s, gIAdd_ii, gISub_ii, gPow_18, gN_ok, gsN_ok, gT_ok, setQs_nil, setQs_fz, setQs_ow, outP_t, outP_f, outP_n, wkO_fz, wkO_ow, wkO_lk, wk_fz, wk_ow, wk_nm, items_l, items_t, unl_none, unl_some, unlK_lk, callK_R, callR_fz, callR_ow, rest_nil, rest_cons, restK_some, wipe_nil, wipe_cons, gAdd_ii, gSub_ii, gMul_l, gMul_r, gDiv_ii, gMod_ii, gNeg_i, gEq_ii, gEq_ss, gEq_bb, gNe_ii, gNe_ss, gLt_ii, gLe_ii, gGt_ii, gGe_ii, gIx_l0, gIx_t0, gIx_l1, gIx_t1, gIx_l2, gIx_t2, gIx_t3, gLen_l, gLen_t, gLen_d, gAbs_i, gAppend_l, gExtend_l, gInt_i, gTuple_l, gTuple_t, gList_l, gList_t, gMax_ii, gMin_ii, gSum_l, gIs_none, isLst, isTO, okTy, isT, isOw, List.getElem?_cons_zero, List.getElem?_cons_succ, List.length_cons, List.length_nil, List.cons_append, List.nil_append, List.replicate, List.set_cons_zero, List.set_cons_succ, true_and, and_true, if_true, List.map_cons, List.map_nil, Nat.reduceAdd, Nat.reduceSub, Nat.reduceLT, Nat.reduceLeDiff, List.length_set, List.length_map, List.length_append, List.length_range, reduceIte, reduceDIte, Bool.false_eq_true, slotOf, wb, Option.getD_some, nmOk, heldR, List.all_cons, List.all_nil, List.any_cons, List.any_nil, isNm, Bool.and_true, Bool.true_and, Bool.false_and, Bool.and_false, Bool.not_false, Bool.not_true, Bool.or_false]
    refine wS_forI (by simp (disch := first | omega | (simp only [List.length_map, List.length_append, List.length_cons, List.length_nil, List.length_set, List.length_range, sizeLine_eq]; done) | (simp only [List.length_map, List.length_append, List.length_cons, List.length_nil, List.length_set, List.length_range, sizeLine_eq]; omega)) only [↓wM_bd, ↓wM_pr, ↓wM_opt, ↓wM_C, ↓wM_var, ↓wM_look_fz, ↓wM_look_ow, ↓wM_look_nm, ↓wM_frz_fz, ↓wM_frz_ow, ↓wM_frz_nm, ↓wM_op2, ↓wM_op2T, ↓wO_gB, ↓wM_op1, ↓wM_nil, ↓wM_cons, ↓wM_frzA0, ↓wM_frzA, ↓wM_lookA0, ↓wM_lookA, ↓wM_tup, ↓wM_lst, ↓wM_B, ↓wM_isi, ↓wM_me, ↓wM_sl, ↓wM_noP, ↓wM_part, ↓wM_key, ↓wM_call, ↓wM_argSA0, ↓wM_argSA, ↓wM_argS_fz, ↓wM_argS_ow, ↓wM_argS_nm, ↓wM_mut, ↓wM_yes, ↓wM_rng1, ↓wM_rng2, ↓wM_wkV, ↓wM_wkT, ↓wM_wkL, ↓wM_wk2, ↓wM_wkB, ↓wM_wkC, ↓wM_not, ↓wM_tru, ↓wM_and, ↓wM_or, ↓wM_andV, ↓wM_orV, ↓wM_notV, ↓wM_ifE, ↓wM_chain, ↓wM_chainT, ↓wM_dispN, ↓wM_pairs0, ↓wM_pairs, ↓wM_new, ↓wO_gsC, ↓wS_seq, ↓wS_pass, ↓wS_brk, ↓wS_cnt, ↓wS_ret, ↓wS_drop, ↓wS_if, ↓wS_set, ↓wS_asg, ↓wS_par, ↓wS_put, ↓wS_augS, ↓wS_aug, ↓wM_run', wO_some, varK_fz, varK_ow, varK_lk, lookK_fz, lookK_ow, lookK_lk, frzK_fz, frzK_ow, frzK_lk, argK_fz, argK_owt, argK_owf, argK_lkt, argK_lkf, mutK_ow', mutO_ow, putK'_ow, getK_ow, fzO_fz, augK_fz, intD_int, retK_fz, retK_ow, retK_nm, retO_fz, retO_ow, retO_lk, setR_fz, setR_ow, setR_nm, setK_fz, setK_ow, setK_lk, tru_b, tru_n, tru_l, tru_t, key_i, key_s, gIAdd_ii, gISub_ii, gPow_18, gN_ok, gsN_ok, gT_ok, setQs_nil, setQs_fz, setQs_ow, outP_t, outP_f, outP_n, wkO_fz, wkO_ow, wkO_lk, wk_fz, wk_ow, wk_nm, items_l, items_t, unl_none, unl_some, unlK_lk, callK_R, callR_fz, callR_ow, rest_nil, rest_cons, restK_some, wipe_nil, wipe_cons, gAdd_ii, gSub_ii, gMul_l, gMul_r, gDiv_ii, gMod_ii, gNeg_i, gEq_ii, gEq_ss, gEq_bb, gNe_ii, gNe_ss, gLt_ii, gLe_ii, gGt_ii, gGe_ii, gIx_l0, gIx_t0, gIx_l1, gIx_t1, gIx_l2, gIx_t2, gIx_t3, gLen_l, gLen_t, gLen_d, gAbs_i, gAppend_l, gExtend_l, gInt_i, gTuple_l, gTuple_t, gList_l, gList_t, gMax_ii, gMin_ii, gSum_l, gIs_none, isLst, isTO, okTy, isT, isOw, List.getElem?_cons_zero, List.getElem?_cons_succ, List.length_cons, List.length_nil, List.cons_append, List.nil_append, List.replicate, List.set_cons_zero, List.set_cons_succ, true_and, and_true, if_true, List.map_cons, List.map_nil, Nat.reduceAdd, Nat.reduceSub, Nat.reduceLT, Nat.reduceLeDiff, List.length_set, List.length_map, List.length_append, List.length_range, reduceIte, reduceDIte, Bool.false_eq_true, slotOf, wb, Option.getD_some, nmOk, heldR, List.all_cons, List.all_nil, List.any_cons, List.any_nil, isNm, Bool.and_true, Bool.true_and, Bool.false_and, Bool.and_false, Bool.not_false, Bool.not_true, Bool.or_false, rng1_ok, rng2_ok] <;> (first | exact ⟨rfl, rfl⟩ | exact rfl)) (fun j ρ => ∃ (ds : List Int) (mixed : Int) (s4 s5 s6 s7 : Sl), ρ = [.fz (.list (script.map .int)), .fz (.int many), .ow (.list (ds.map .int)), .fz (.int mixed), s4, s5, s6, s7] ∧ ds.length ≤ j * 62) ⟨[], 7, _, _, _, _, rfl, by simp⟩ ?_ ?_
    · intro k d ρ hd ⟨ds, mixed, s4, s5, s6, s7, e, hl⟩
      subst e
      obtain ⟨hk, rfl⟩ := at_rng hd
      rw [Int.toNat_natCast] at hk
      simp (disch := first | omega | (simp only [List.length_map, List.length_append, List.length_cons, List.length_nil, List.length_set, List.length_range, sizeLine_eq]; done) | (simp only [List.length_map, List.length_append, List.length_cons, List.length_nil, List.length_set, List.length_range, sizeLine_eq]; omega)) only [↓wM_bd, ↓wM_pr, ↓wM_opt, ↓wM_C, ↓wM_var, ↓wM_look_fz, ↓wM_look_ow, ↓wM_look_nm, ↓wM_frz_fz, ↓wM_frz_ow, ↓wM_frz_nm, ↓wM_op2, ↓wM_op2T, ↓wO_gB, ↓wM_op1, ↓wM_nil, ↓wM_cons, ↓wM_frzA0, ↓wM_frzA, ↓wM_lookA0, ↓wM_lookA, ↓wM_tup, ↓wM_lst, ↓wM_B, ↓wM_isi, ↓wM_me, ↓wM_sl, ↓wM_noP, ↓wM_part, ↓wM_key, ↓wM_call, ↓wM_argSA0, ↓wM_argSA, ↓wM_argS_fz, ↓wM_argS_ow, ↓wM_argS_nm, ↓wM_mut, ↓wM_yes, ↓wM_rng1, ↓wM_rng2, ↓wM_wkV, ↓wM_wkT, ↓wM_wkL, ↓wM_wk2, ↓wM_wkB, ↓wM_wkC, ↓wM_not, ↓wM_tru, ↓wM_and, ↓wM_or, ↓wM_andV, ↓wM_orV, ↓wM_notV, ↓wM_ifE, ↓wM_chain, ↓wM_chainT, ↓wM_dispN, ↓wM_pairs0, ↓wM_pairs, ↓wM_new, ↓wO_gsC, ↓wS_seq, ↓wS_pass, ↓wS_brk, ↓wS_cnt, ↓wS_ret, ↓wS_drop, ↓wS_if, ↓wS_set, ↓wS_asg, ↓wS_par, ↓wS_put, ↓wS_augS, ↓wS_aug, ↓wM_run', wO_some, varK_fz, varK_ow, varK_lk, lookK_fz, lookK_ow, lookK_lk, frzK_fz, frzK_ow, frzK_lk, argK_fz, argK_owt, argK_owf, argK_lkt, argK_lkf, mutK_ow', mutO_ow, putK'_ow, getK_ow, fzO_fz, augK_fz, intD_int, retK_fz, retK_ow, retK_nm, retO_fz, retO_ow, retO_lk, setR_fz, setR_ow, setR_nm, setK_fz, setK_ow, setK_lk, tru_b, tru_n, tru_l, tru_t, key_i, key_s, gIAdd_ii, gISub_ii, gPow_18, gN_ok, gsN_ok, gT_ok, setQs_nil, setQs_fz, setQs_ow, outP_t, outP_f, outP_n, wkO_fz, wkO_ow, wkO_lk, wk_fz, wk_ow, wk_nm, items_l, items_t, unl_none, unl_some, unlK_lk, callK_R, callR_fz, callR_ow, rest_nil, rest_cons, restK_some, wipe_nil, wipe_cons, gAdd_ii, gSub_ii, gMul_l, gMul_r, gDiv_ii, gMod_ii, gNeg_i, gEq_ii, gEq_ss, gEq_bb, gNe_ii, gNe_ss, gLt_ii, gLe_ii, gGt_ii, gGe_ii, gIx_l0, gIx_t0, gIx_l1, gIx_t1, gIx_l2, gIx_t2, gIx_t3, gLen_l, gLen_t, gLen_d, gAbs_i, gAppend_l, gExtend_l, gInt_i, gTuple_l, gTuple_t, gList_l, gList_t, gMax_ii, gMin_ii, gSum_l, gIs_none, isLst, isTO, okTy, isT, isOw, List.getElem?_cons_zero, List.getElem?_cons_succ, List.length_cons, List.length_nil, List.cons_append, List.nil_append, List.replicate, List.set_cons_zero, List.set_cons_succ, true_and, and_true, if_true, List.map_cons, List.map_nil, Nat.reduceAdd, Nat.reduceSub, Nat.reduceLT, Nat.reduceLeDiff, List.length_set, List.length_map, List.length_append, List.length_range, reduceIte, reduceDIte, Bool.false_eq_true, slotOf, wb, Option.getD_some, nmOk, heldR, List.all_cons, List.all_nil, List.any_cons, List.any_nil, isNm, Bool.and_true, Bool.true_and, Bool.false_and, Bool.and_false, Bool.not_false, Bool.not_true, Bool.or_false, gIx_lm]
      generalize (if script[k] < 0 then -script[k] else script[k]) = cell
      have inner : ∀ (ds : List Int) (mixed : Int) (s4 s5 s7 : Sl) (rest : Int), ds.length ≤ k * 62 + 2 → wS (dFor (dRng1 (dCons (dC (.int 60)) dNil)) (gN 7)
         ((dIf (dOp2T gGt (dVar 6) (dC (.int 0)))
         ((dSeq (dDrop (dMut 2 isLst true gAppend (dCons (dOp2 gMod (dB gInt (dCons (dVar 6) dNil)) (dC (.int 997))) dNil)))
         (dSet 6 (dOp2 gDiv (dVar 6) (dC (.int 997))))))
         (dPass)))) [.fz (.list (script.map .int)), .fz (.int many), .ow (.list (ds.map .int)), .fz (.int mixed), s4, s5, .fz (.int rest), s7]
         (fun ρ => ∃ (ds : List Int) (mixed : Int) (s4 s5 s6 s7 : Sl), ρ = [.fz (.list (script.map .int)), .fz (.int many), .ow (.list (ds.map .int)), .fz (.int mixed), s4, s5, s6, s7] ∧ ds.length ≤ (k + 1) * 62) (fun _ _ => False) nope nope := by
        intro ds mixed s4 s5 s7 rest hl
        refine wS_forI (by simp (disch := first | omega | (simp only [List.length_map, List.length_append, List.length_cons, List.length_nil, List.length_set, List.length_range, sizeLine_eq]; done) | (simp only [List.length_map, List.length_append, List.length_cons, List.length_nil, List.length_set, List.length_range, sizeLine_eq]; omega)) only [↓wM_bd, ↓wM_pr, ↓wM_opt, ↓wM_C, ↓wM_var, ↓wM_look_fz, ↓wM_look_ow, ↓wM_look_nm, ↓wM_frz_fz, ↓wM_frz_ow, ↓wM_frz_nm, ↓wM_op2, ↓wM_op2T, ↓wO_gB, ↓wM_op1, ↓wM_nil, ↓wM_cons, ↓wM_frzA0, ↓wM_frzA, ↓wM_lookA0, ↓wM_lookA, ↓wM_tup, ↓wM_lst, ↓wM_B, ↓wM_isi, ↓wM_me, ↓wM_sl, ↓wM_noP, ↓wM_part, ↓wM_key, ↓wM_call, ↓wM_argSA0, ↓wM_argSA, ↓wM_argS_fz, ↓wM_argS_ow, ↓wM_argS_nm, ↓wM_mut, ↓wM_yes, ↓wM_rng1, ↓wM_rng2, ↓wM_wkV, ↓wM_wkT, ↓wM_wkL, ↓wM_wk2, ↓wM_wkB, ↓wM_wkC, ↓wM_not, ↓wM_tru, ↓wM_and, ↓wM_or, ↓wM_andV, ↓wM_orV, ↓wM_notV, ↓wM_ifE, ↓wM_chain, ↓wM_chainT, ↓wM_dispN, ↓wM_pairs0, ↓wM_pairs, ↓wM_new, ↓wO_gsC, ↓wS_seq, ↓wS_pass, ↓wS_brk, ↓wS_cnt, ↓wS_ret, ↓wS_drop, ↓wS_if, ↓wS_set, ↓wS_asg, ↓wS_par, ↓wS_put, ↓wS_augS, ↓wS_aug, ↓wM_run', wO_some, varK_fz, varK_ow, varK_lk, lookK_fz, lookK_ow, lookK_lk, frzK_fz, frzK_ow, frzK_lk, argK_fz, argK_owt, argK_owf, argK_lkt, argK_lkf, mutK_ow', mutO_ow, putK'_ow, getK_ow, fzO_fz, augK_fz, intD_int, retK_fz, retK_ow, retK_nm, retO_fz, retO_ow, retO_lk, setR_fz, setR_ow, setR_nm, setK_fz, setK_ow, setK_lk, tru_b, tru_n, tru_l, tru_t, key_i, key_s, gIAdd_ii, gISub_ii, gPow_18, gN_ok, gsN_ok, gT_ok, setQs_nil, setQs_fz, setQs_ow, outP_t, outP_f, outP_n, wkO_fz, wkO_ow, wkO_lk, wk_fz, wk_ow, wk_nm, items_l, items_t, unl_none, unl_some, unlK_lk, callK_R, callR_fz, callR_ow, rest_nil, rest_cons, restK_some, wipe_nil, wipe_cons, gAdd_ii, gSub_ii, gMul_l, gMul_r, gDiv_ii, gMod_ii, gNeg_i, gEq_ii, gEq_ss, gEq_bb, gNe_ii, gNe_ss, gLt_ii, gLe_ii, gGt_ii, gGe_ii, gIx_l0, gIx_t0, gIx_l1, gIx_t1, gIx_l2, gIx_t2, gIx_t3, gLen_l, gLen_t, gLen_d, gAbs_i, gAppend_l, gExtend_l, gInt_i, gTuple_l, gTuple_t, gList_l, gList_t, gMax_ii, gMin_ii, gSum_l, gIs_none, isLst, isTO, okTy, isT, isOw, List.getElem?_cons_zero, List.getElem?_cons_succ, List.length_cons, List.length_nil, List.cons_append, List.nil_append, List.replicate, List.set_cons_zero, List.set_cons_succ, true_and, and_true, if_true, List.map_cons, List.map_nil, Nat.reduceAdd, Nat.reduceSub, Nat.reduceLT, Nat.reduceLeDiff, List.length_set, List.length_map, List.length_append, List.length_range, reduceIte, reduceDIte, Bool.false_eq_true, slotOf, wb, Option.getD_some, nmOk, heldR, List.all_cons, List.all_nil, List.any_cons, List.any_nil, isNm, Bool.and_true, Bool.true_and, Bool.false_and, Bool.and_false, Bool.not_false, Bool.not_true, Bool.or_false, rng1_ok, rng2_ok] <;> (first | exact ⟨rfl, rfl⟩ | exact rfl)) (fun j ρ => ∃ (ds : List Int) (rest : Int) (s7 : Sl), ρ = [.fz (.list (script.map .int)), .fz (.int many), .ow (.list (ds.map .int)), .fz (.int mixed), s4, s5, .fz (.int rest), s7] ∧ ds.length ≤ k * 62 + 2 + j) ⟨ds, rest, s7, rfl, hl⟩ ?_ ?_
        · intro j d ρ hd ⟨ds, rest, s7, e, hl⟩
          subst e
          obtain ⟨hj, rfl⟩ := at_rng hd
          have hj : j < 60 := by simpa using hj
          simp (disch := first | omega | (simp only [List.length_map, List.length_append, List.length_cons, List.length_nil, List.length_set, List.length_range, sizeLine_eq]; done) | (simp only [List.length_map, List.length_append, List.length_cons, List.length_nil, List.length_set, List.length_range, sizeLine_eq]; omega)) only [↓wM_bd, ↓wM_pr, ↓wM_opt, ↓wM_C, ↓wM_var, ↓wM_look_fz, ↓wM_look_ow, ↓wM_look_nm, ↓wM_frz_fz, ↓wM_frz_ow, ↓wM_frz_nm, ↓wM_op2, ↓wM_op2T, ↓wO_gB, ↓wM_op1, ↓wM_nil, ↓wM_cons, ↓wM_frzA0, ↓wM_frzA, ↓wM_lookA0, ↓wM_lookA, ↓wM_tup, ↓wM_lst, ↓wM_B, ↓wM_isi, ↓wM_me, ↓wM_sl, ↓wM_noP, ↓wM_part, ↓wM_key, ↓wM_call, ↓wM_argSA0, ↓wM_argSA, ↓wM_argS_fz, ↓wM_argS_ow, ↓wM_argS_nm, ↓wM_mut, ↓wM_yes, ↓wM_rng1, ↓wM_rng2, ↓wM_wkV, ↓wM_wkT, ↓wM_wkL, ↓wM_wk2, ↓wM_wkB, ↓wM_wkC, ↓wM_not, ↓wM_tru, ↓wM_and, ↓wM_or, ↓wM_andV, ↓wM_orV, ↓wM_notV, ↓wM_ifE, ↓wM_chain, ↓wM_chainT, ↓wM_dispN, ↓wM_pairs0, ↓wM_pairs, ↓wM_new, ↓wO_gsC, ↓wS_seq, ↓wS_pass, ↓wS_brk, ↓wS_cnt, ↓wS_ret, ↓wS_drop, ↓wS_if, ↓wS_set, ↓wS_asg, ↓wS_par, ↓wS_put, ↓wS_augS, ↓wS_aug, ↓wM_run', wO_some, varK_fz, varK_ow, varK_lk, lookK_fz, lookK_ow, lookK_lk, frzK_fz, frzK_ow, frzK_lk, argK_fz, argK_owt, argK_owf, argK_lkt, argK_lkf, mutK_ow', mutO_ow, putK'_ow, getK_ow, fzO_fz, augK_fz, intD_int, retK_fz, retK_ow, retK_nm, retO_fz, retO_ow, retO_lk, setR_fz, setR_ow, setR_nm, setK_fz, setK_ow, setK_lk, tru_b, tru_n, tru_l, tru_t, key_i, key_s, gIAdd_ii, gISub_ii, gPow_18, gN_ok, gsN_ok, gT_ok, setQs_nil, setQs_fz, setQs_ow, outP_t, outP_f, outP_n, wkO_fz, wkO_ow, wkO_lk, wk_fz, wk_ow, wk_nm, items_l, items_t, unl_none, unl_some, unlK_lk, callK_R, callR_fz, callR_ow, rest_nil, rest_cons, restK_some, wipe_nil, wipe_cons, gAdd_ii, gSub_ii, gMul_l, gMul_r, gDiv_ii, gMod_ii, gNeg_i, gEq_ii, gEq_ss, gEq_bb, gNe_ii, gNe_ss, gLt_ii, gLe_ii, gGt_ii, gGe_ii, gIx_l0, gIx_t0, gIx_l1, gIx_t1, gIx_l2, gIx_t2, gIx_t3, gLen_l, gLen_t, gLen_d, gAbs_i, gAppend_l, gExtend_l, gInt_i, gTuple_l, gTuple_t, gList_l, gList_t, gMax_ii, gMin_ii, gSum_l, gIs_none, isLst, isTO, okTy, isT, isOw, List.getElem?_cons_zero, List.getElem?_cons_succ, List.length_cons, List.length_nil, List.cons_append, List.nil_append, List.replicate, List.set_cons_zero, List.set_cons_succ, true_and, and_true, if_true, List.map_cons, List.map_nil, Nat.reduceAdd, Nat.reduceSub, Nat.reduceLT, Nat.reduceLeDiff, List.length_set, List.length_map, List.length_append, List.length_range, reduceIte, reduceDIte, Bool.false_eq_true, slotOf, wb, Option.getD_some, nmOk, heldR, List.all_cons, List.all_nil, List.any_cons, List.any_nil, isNm, Bool.and_true, Bool.true_and, Bool.false_and, Bool.and_false, Bool.not_false, Bool.not_true, Bool.or_false, gIx_lm]
          split
          · exact ⟨ds ++ [rest % 997], _, _, by rw [List.map_append]; rfl, by simp; omega⟩
          · exact ⟨ds, _, _, rfl, by omega⟩
        · intro ρ ⟨ds, rest, s7, e, hl⟩
          simp at hl
          exact ⟨ds, _, _, _, _, _, e, by omega⟩
      split
      · exact wS_mono (inner ds _ _ _ _ _ (by omega)) (fun _ h => h) (fun _ _ h => h.elim) (fun _ h => h.elim) (fun _ h => h.elim)
      · have := inner (ds ++ [cell % 997, ((mixed * 48271 + cell % 1000003 + (k : Int)) % 65537 * 69621 + 5) % 65521 % 997]) ((mixed * 48271 + cell % 1000003 + (k : Int)) % 65537) (.fz (.int k)) (.fz (.int cell)) s7 0 (by simp; omega)
        simp only [List.map_append, List.map_cons, List.map_nil] at this
        simp only [List.append_assoc, List.cons_append, List.nil_append]
        exact wS_mono this (fun _ h => h) (fun _ _ h => h.elim) (fun _ h => h.elim) (fun _ h => h.elim)
    · intro ρ ⟨ds, mixed, s4, s5, s6, s7, e, hl⟩
      subst e
      rw [unl_none]
      simp (disch := first | omega | (simp only [List.length_map, List.length_append, List.length_cons, List.length_nil, List.length_set, List.length_range, sizeLine_eq]; done) | (simp only [List.length_map, List.length_append, List.length_cons, List.length_nil, List.length_set, List.length_range, sizeLine_eq]; omega)) only [↓wM_bd, ↓wM_pr, ↓wM_opt, ↓wM_C, ↓wM_var, ↓wM_look_fz, ↓wM_look_ow, ↓wM_look_nm, ↓wM_frz_fz, ↓wM_frz_ow, ↓wM_frz_nm, ↓wM_op2, ↓wM_op2T, ↓wO_gB, ↓wM_op1, ↓wM_nil, ↓wM_cons, ↓wM_frzA0, ↓wM_frzA, ↓wM_lookA0, ↓wM_lookA, ↓wM_tup, ↓wM_lst, ↓wM_B, ↓wM_isi, ↓wM_me, ↓wM_sl, ↓wM_noP, ↓wM_part, ↓wM_key, ↓wM_call, ↓wM_argSA0, ↓wM_argSA, ↓wM_argS_fz, ↓wM_argS_ow, ↓wM_argS_nm, ↓wM_mut, ↓wM_yes, ↓wM_rng1, ↓wM_rng2, ↓wM_wkV, ↓wM_wkT, ↓wM_wkL, ↓wM_wk2, ↓wM_wkB, ↓wM_wkC, ↓wM_not, ↓wM_tru, ↓wM_and, ↓wM_or, ↓wM_andV, ↓wM_orV, ↓wM_notV, ↓wM_ifE, ↓wM_chain, ↓wM_chainT, ↓wM_dispN, ↓wM_pairs0, ↓wM_pairs, ↓wM_new, ↓wO_gsC, ↓wS_seq, ↓wS_pass, ↓wS_brk, ↓wS_cnt, ↓wS_ret, ↓wS_drop, ↓wS_if, ↓wS_set, ↓wS_asg, ↓wS_par, ↓wS_put, ↓wS_augS, ↓wS_aug, ↓wM_run', wO_some, varK_fz, varK_ow, varK_lk, lookK_fz, lookK_ow, lookK_lk, frzK_fz, frzK_ow, frzK_lk, argK_fz, argK_owt, argK_owf, argK_lkt, argK_lkf, mutK_ow', mutO_ow, putK'_ow, getK_ow, fzO_fz, augK_fz, intD_int, retK_fz, retK_ow, retK_nm, retO_fz, retO_ow, retO_lk, setR_fz, setR_ow, setR_nm, setK_fz, setK_ow, setK_lk, tru_b, tru_n, tru_l, tru_t, key_i, key_s, gIAdd_ii, gISub_ii, gPow_18, gN_ok, gsN_ok, gT_ok, setQs_nil, setQs_fz, setQs_ow, outP_t, outP_f, outP_n, wkO_fz, wkO_ow, wkO_lk, wk_fz, wk_ow, wk_nm, items_l, items_t, unl_none, unl_some, unlK_lk, callK_R, callR_fz, callR_ow, rest_nil, rest_cons, restK_some, wipe_nil, wipe_cons, gAdd_ii, gSub_ii, gMul_l, gMul_r, gDiv_ii, gMod_ii, gNeg_i, gEq_ii, gEq_ss, gEq_bb, gNe_ii, gNe_ss, gLt_ii, gLe_ii, gGt_ii, gGe_ii, gIx_l0, gIx_t0, gIx_l1, gIx_t1, gIx_l2, gIx_t2, gIx_t3, gLen_l, gLen_t, gLen_d, gAbs_i, gAppend_l, gExtend_l, gInt_i, gTuple_l, gTuple_t, gList_l, gList_t, gMax_ii, gMin_ii, gSum_l, gIs_none, isLst, isTO, okTy, isT, isOw, List.getElem?_cons_zero, List.getElem?_cons_succ, List.length_cons, List.length_nil, List.cons_append, List.nil_append, List.replicate, List.set_cons_zero, List.set_cons_succ, true_and, and_true, if_true, List.map_cons, List.map_nil, Nat.reduceAdd, Nat.reduceSub, Nat.reduceLT, Nat.reduceLeDiff, List.length_set, List.length_map, List.length_append, List.length_range, reduceIte, reduceDIte, Bool.false_eq_true, slotOf, wb, Option.getD_some, nmOk, heldR, List.all_cons, List.all_nil, List.any_cons, List.any_nil, isNm, Bool.and_true, Bool.true_and, Bool.false_and, Bool.and_false, Bool.not_false, Bool.not_true, Bool.or_false]
      refine wS_forI (by simp (disch := first | omega | (simp only [List.length_map, List.length_append, List.length_cons, List.length_nil, List.length_set, List.length_range, sizeLine_eq]; done) | (simp only [List.length_map, List.length_append, List.length_cons, List.length_nil, List.length_set, List.length_range, sizeLine_eq]; omega)) only [↓wM_bd, ↓wM_pr, ↓wM_opt, ↓wM_C, ↓wM_var, ↓wM_look_fz, ↓wM_look_ow, ↓wM_look_nm, ↓wM_frz_fz, ↓wM_frz_ow, ↓wM_frz_nm, ↓wM_op2, ↓wM_op2T, ↓wO_gB, ↓wM_op1, ↓wM_nil, ↓wM_cons, ↓wM_frzA0, ↓wM_frzA, ↓wM_lookA0, ↓wM_lookA, ↓wM_tup, ↓wM_lst, ↓wM_B, ↓wM_isi, ↓wM_me, ↓wM_sl, ↓wM_noP, ↓wM_part, ↓wM_key, ↓wM_call, ↓wM_argSA0, ↓wM_argSA, ↓wM_argS_fz, ↓wM_argS_ow, ↓wM_argS_nm, ↓wM_mut, ↓wM_yes, ↓wM_rng1, ↓wM_rng2, ↓wM_wkV, ↓wM_wkT, ↓wM_wkL, ↓wM_wk2, ↓wM_wkB, ↓wM_wkC, ↓wM_not, ↓wM_tru, ↓wM_and, ↓wM_or, ↓wM_andV, ↓wM_orV, ↓wM_notV, ↓wM_ifE, ↓wM_chain, ↓wM_chainT, ↓wM_dispN, ↓wM_pairs0, ↓wM_pairs, ↓wM_new, ↓wO_gsC, ↓wS_seq, ↓wS_pass, ↓wS_brk, ↓wS_cnt, ↓wS_ret, ↓wS_drop, ↓wS_if, ↓wS_set, ↓wS_asg, ↓wS_par, ↓wS_put, ↓wS_augS, ↓wS_aug, ↓wM_run', wO_some, varK_fz, varK_ow, varK_lk, lookK_fz, lookK_ow, lookK_lk, frzK_fz, frzK_ow, frzK_lk, argK_fz, argK_owt, argK_owf, argK_lkt, argK_lkf, mutK_ow', mutO_ow, putK'_ow, getK_ow, fzO_fz, augK_fz, intD_int, retK_fz, retK_ow, retK_nm, retO_fz, retO_ow, retO_lk, setR_fz, setR_ow, setR_nm, setK_fz, setK_ow, setK_lk, tru_b, tru_n, tru_l, tru_t, key_i, key_s, gIAdd_ii, gISub_ii, gPow_18, gN_ok, gsN_ok, gT_ok, setQs_nil, setQs_fz, setQs_ow, outP_t, outP_f, outP_n, wkO_fz, wkO_ow, wkO_lk, wk_fz, wk_ow, wk_nm, items_l, items_t, unl_none, unl_some, unlK_lk, callK_R, callR_fz, callR_ow, rest_nil, rest_cons, restK_some, wipe_nil, wipe_cons, gAdd_ii, gSub_ii, gMul_l, gMul_r, gDiv_ii, gMod_ii, gNeg_i, gEq_ii, gEq_ss, gEq_bb, gNe_ii, gNe_ss, gLt_ii, gLe_ii, gGt_ii, gGe_ii, gIx_l0, gIx_t0, gIx_l1, gIx_t1, gIx_l2, gIx_t2, gIx_t3, gLen_l, gLen_t, gLen_d, gAbs_i, gAppend_l, gExtend_l, gInt_i, gTuple_l, gTuple_t, gList_l, gList_t, gMax_ii, gMin_ii, gSum_l, gIs_none, isLst, isTO, okTy, isT, isOw, List.getElem?_cons_zero, List.getElem?_cons_succ, List.length_cons, List.length_nil, List.cons_append, List.nil_append, List.replicate, List.set_cons_zero, List.set_cons_succ, true_and, and_true, if_true, List.map_cons, List.map_nil, Nat.reduceAdd, Nat.reduceSub, Nat.reduceLT, Nat.reduceLeDiff, List.length_set, List.length_map, List.length_append, List.length_range, reduceIte, reduceDIte, Bool.false_eq_true, slotOf, wb, Option.getD_some, nmOk, heldR, List.all_cons, List.all_nil, List.any_cons, List.any_nil, isNm, Bool.and_true, Bool.true_and, Bool.false_and, Bool.and_false, Bool.not_false, Bool.not_true, Bool.or_false, rng1_ok, rng2_ok] <;> (first | exact ⟨rfl, rfl⟩ | exact rfl)) (fun j ρ => ∃ (ds : List Int) (mixed : Int) (s4 s5 s6 s7 : Sl), ρ = [.fz (.list (script.map .int)), .fz (.int many), .ow (.list (ds.map .int)), .fz (.int mixed), s4, s5, s6, s7] ∧ ds.length ≤ 4000 + j) ⟨ds, mixed, _, _, _, _, rfl, by simp at hl; omega⟩ ?_ ?_
      · intro k d ρ hd ⟨ds, mixed, s4, s5, s6, s7, e, hl⟩
        subst e
        obtain ⟨hk, rfl⟩ := at_rng hd
        rw [Int.toNat_natCast] at hk
        simp (disch := first | omega | (simp only [List.length_map, List.length_append, List.length_cons, List.length_nil, List.length_set, List.length_range, sizeLine_eq]; done) | (simp only [List.length_map, List.length_append, List.length_cons, List.length_nil, List.length_set, List.length_range, sizeLine_eq]; omega)) only [↓wM_bd, ↓wM_pr, ↓wM_opt, ↓wM_C, ↓wM_var, ↓wM_look_fz, ↓wM_look_ow, ↓wM_look_nm, ↓wM_frz_fz, ↓wM_frz_ow, ↓wM_frz_nm, ↓wM_op2, ↓wM_op2T, ↓wO_gB, ↓wM_op1, ↓wM_nil, ↓wM_cons, ↓wM_frzA0, ↓wM_frzA, ↓wM_lookA0, ↓wM_lookA, ↓wM_tup, ↓wM_lst, ↓wM_B, ↓wM_isi, ↓wM_me, ↓wM_sl, ↓wM_noP, ↓wM_part, ↓wM_key, ↓wM_call, ↓wM_argSA0, ↓wM_argSA, ↓wM_argS_fz, ↓wM_argS_ow, ↓wM_argS_nm, ↓wM_mut, ↓wM_yes, ↓wM_rng1, ↓wM_rng2, ↓wM_wkV, ↓wM_wkT, ↓wM_wkL, ↓wM_wk2, ↓wM_wkB, ↓wM_wkC, ↓wM_not, ↓wM_tru, ↓wM_and, ↓wM_or, ↓wM_andV, ↓wM_orV, ↓wM_notV, ↓wM_ifE, ↓wM_chain, ↓wM_chainT, ↓wM_dispN, ↓wM_pairs0, ↓wM_pairs, ↓wM_new, ↓wO_gsC, ↓wS_seq, ↓wS_pass, ↓wS_brk, ↓wS_cnt, ↓wS_ret, ↓wS_drop, ↓wS_if, ↓wS_set, ↓wS_asg, ↓wS_par, ↓wS_put, ↓wS_augS, ↓wS_aug, ↓wM_run', wO_some, varK_fz, varK_ow, varK_lk, lookK_fz, lookK_ow, lookK_lk, frzK_fz, frzK_ow, frzK_lk, argK_fz, argK_owt, argK_owf, argK_lkt, argK_lkf, mutK_ow', mutO_ow, putK'_ow, getK_ow, fzO_fz, augK_fz, intD_int, retK_fz, retK_ow, retK_nm, retO_fz, retO_ow, retO_lk, setR_fz, setR_ow, setR_nm, setK_fz, setK_ow, setK_lk, tru_b, tru_n, tru_l, tru_t, key_i, key_s, gIAdd_ii, gISub_ii, gPow_18, gN_ok, gsN_ok, gT_ok, setQs_nil, setQs_fz, setQs_ow, outP_t, outP_f, outP_n, wkO_fz, wkO_ow, wkO_lk, wk_fz, wk_ow, wk_nm, items_l, items_t, unl_none, unl_some, unlK_lk, callK_R, callR_fz, callR_ow, rest_nil, rest_cons, restK_some, wipe_nil, wipe_cons, gAdd_ii, gSub_ii, gMul_l, gMul_r, gDiv_ii, gMod_ii, gNeg_i, gEq_ii, gEq_ss, gEq_bb, gNe_ii, gNe_ss, gLt_ii, gLe_ii, gGt_ii, gGe_ii, gIx_l0, gIx_t0, gIx_l1, gIx_t1, gIx_l2, gIx_t2, gIx_t3, gLen_l, gLen_t, gLen_d, gAbs_i, gAppend_l, gExtend_l, gInt_i, gTuple_l, gTuple_t, gList_l, gList_t, gMax_ii, gMin_ii, gSum_l, gIs_none, isLst, isTO, okTy, isT, isOw, List.getElem?_cons_zero, List.getElem?_cons_succ, List.length_cons, List.length_nil, List.cons_append, List.nil_append, List.replicate, List.set_cons_zero, List.set_cons_succ, true_and, and_true, if_true, List.map_cons, List.map_nil, Nat.reduceAdd, Nat.reduceSub, Nat.reduceLT, Nat.reduceLeDiff, List.length_set, List.length_map, List.length_append, List.length_range, reduceIte, reduceDIte, Bool.false_eq_true, slotOf, wb, Option.getD_some, nmOk, heldR, List.all_cons, List.all_nil, List.any_cons, List.any_nil, isNm, Bool.and_true, Bool.true_and, Bool.false_and, Bool.and_false, Bool.not_false, Bool.not_true, Bool.or_false]
        exact ⟨ds ++ [(mixed * 16807 + k + 1) % 65537 % 997], (mixed * 16807 + k + 1) % 65537, _, _, _, _, by rw [List.map_append]; rfl, by simp; omega⟩
      · intro ρ ⟨ds, mixed, s4, s5, s6, s7, e, hl⟩
        subst e
        rw [unl_none]
        simp (disch := first | omega | (simp only [List.length_map, List.length_append, List.length_cons, List.length_nil, List.length_set, List.length_range, sizeLine_eq]; done) | (simp only [List.length_map, List.length_append, List.length_cons, List.length_nil, List.length_set, List.length_range, sizeLine_eq]; omega)) only [↓wM_bd, ↓wM_pr, ↓wM_opt, ↓wM_C, ↓wM_var, ↓wM_look_fz, ↓wM_look_ow, ↓wM_look_nm, ↓wM_frz_fz, ↓wM_frz_ow, ↓wM_frz_nm, ↓wM_op2, ↓wM_op2T, ↓wO_gB, ↓wM_op1, ↓wM_nil, ↓wM_cons, ↓wM_frzA0, ↓wM_frzA, ↓wM_lookA0, ↓wM_lookA, ↓wM_tup, ↓wM_lst, ↓wM_B, ↓wM_isi, ↓wM_me, ↓wM_sl, ↓wM_noP, ↓wM_part, ↓wM_key, ↓wM_call, ↓wM_argSA0, ↓wM_argSA, ↓wM_argS_fz, ↓wM_argS_ow, ↓wM_argS_nm, ↓wM_mut, ↓wM_yes, ↓wM_rng1, ↓wM_rng2, ↓wM_wkV, ↓wM_wkT, ↓wM_wkL, ↓wM_wk2, ↓wM_wkB, ↓wM_wkC, ↓wM_not, ↓wM_tru, ↓wM_and, ↓wM_or, ↓wM_andV, ↓wM_orV, ↓wM_notV, ↓wM_ifE, ↓wM_chain, ↓wM_chainT, ↓wM_dispN, ↓wM_pairs0, ↓wM_pairs, ↓wM_new, ↓wO_gsC, ↓wS_seq, ↓wS_pass, ↓wS_brk, ↓wS_cnt, ↓wS_ret, ↓wS_drop, ↓wS_if, ↓wS_set, ↓wS_asg, ↓wS_par, ↓wS_put, ↓wS_augS, ↓wS_aug, ↓wM_run', wO_some, varK_fz, varK_ow, varK_lk, lookK_fz, lookK_ow, lookK_lk, frzK_fz, frzK_ow, frzK_lk, argK_fz, argK_owt, argK_owf, argK_lkt, argK_lkf, mutK_ow', mutO_ow, putK'_ow, getK_ow, fzO_fz, augK_fz, intD_int, retK_fz, retK_ow, retK_nm, retO_fz, retO_ow, retO_lk, setR_fz, setR_ow, setR_nm, setK_fz, setK_ow, setK_lk, tru_b, tru_n, tru_l, tru_t, key_i, key_s, gIAdd_ii, gISub_ii, gPow_18, gN_ok, gsN_ok, gT_ok, setQs_nil, setQs_fz, setQs_ow, outP_t, outP_f, outP_n, wkO_fz, wkO_ow, wkO_lk, wk_fz, wk_ow, wk_nm, items_l, items_t, unl_none, unl_some, unlK_lk, callK_R, callR_fz, callR_ow, rest_nil, rest_cons, restK_some, wipe_nil, wipe_cons, gAdd_ii, gSub_ii, gMul_l, gMul_r, gDiv_ii, gMod_ii, gNeg_i, gEq_ii, gEq_ss, gEq_bb, gNe_ii, gNe_ss, gLt_ii, gLe_ii, gGt_ii, gGe_ii, gIx_l0, gIx_t0, gIx_l1, gIx_t1, gIx_l2, gIx_t2, gIx_t3, gLen_l, gLen_t, gLen_d, gAbs_i, gAppend_l, gExtend_l, gInt_i, gTuple_l, gTuple_t, gList_l, gList_t, gMax_ii, gMin_ii, gSum_l, gIs_none, isLst, isTO, okTy, isT, isOw, List.getElem?_cons_zero, List.getElem?_cons_succ, List.length_cons, List.length_nil, List.cons_append, List.nil_append, List.replicate, List.set_cons_zero, List.set_cons_succ, true_and, and_true, if_true, List.map_cons, List.map_nil, Nat.reduceAdd, Nat.reduceSub, Nat.reduceLT, Nat.reduceLeDiff, List.length_set, List.length_map, List.length_append, List.length_range, reduceIte, reduceDIte, Bool.false_eq_true, slotOf, wb, Option.getD_some, nmOk, heldR, List.all_cons, List.all_nil, List.any_cons, List.any_nil, isNm, Bool.and_true, Bool.true_and, Bool.false_and, Bool.and_false, Bool.not_false, Bool.not_true, Bool.or_false, gSl]
        refine ⟨ds.take many, ?_⟩
        unfold cutD
        simp [HT.sIx_nat, HT.sIx_none]
  obtain ⟨r, ρ', e, ds, rfl, rfl⟩ := wM_iff.mp key
  exact ⟨ds, e⟩
end DL
namespace DL
open PySem L2
def pickB (next : M Rs) : DS := dRet (dOp2 gIx (dVar 1) (dCall [true, true] next (dCons (dVar 0) (dCons (dB gLen (dCons (dVar 1) dNil)) dNil))))
def pickF : M Rs := runDef [true, true] 2 (pickB nextF)
end DL
namespace DL
open PySem L2
theorem dataLe_D (x y : D) : PySem.W.dataLe false id x y = !PySem.W.dataLt y x := by rfl
theorem next_ok' {ds : List Int} {i : Nat} {m : Int} (hm : 0 < m) : nextF [.ow (Wd ds i), .fz (.int m)] = .ok (.fz (.int (nx ds i m))) [.ow (Wd ds (i + 1 : Nat)), .fz (.int m)] := next_ok ds i m hm
theorem nx_bd (ds : List Int) (i : Nat) (m : Int) (h : 0 < m) : 0 ≤ nx ds i m ∧ nx ds i m < m := ⟨nx_nonneg h, nx_lt h⟩
/-- data that may be compared -/
def fine (n : Nat) (d : D) : Prop := d.canLay0 = true ∧ d.depth ≤ n
theorem fine_all {n : Nat} {ds : List D} (h : ∀ d ∈ ds, fine n d) : PyData.canLayAll0 ds = true ∧ PyData.depthAll ds ≤ n := by
  induction ds with
  | nil => exact ⟨by simp [PyData.canLayAll0], by simp [PyData.depthAll]⟩
  | cons x xs ih =>
    obtain ⟨a, b⟩ := ih fun d hd => h d (by simp [hd])
    obtain ⟨c, e⟩ := h x (by simp)
    exact ⟨by simp [PyData.canLayAll0, a, c], by simp only [PyData.depthAll]; omega⟩
theorem fine_l {n : Nat} {ds : List D} (h : ∀ d ∈ ds, fine n d) : fine (n + 1) (.list ds) := by
  obtain ⟨a, b⟩ := fine_all h
  exact ⟨by simpa [PyData.canLay0] using a, by simpa [PyData.depth] using b⟩
theorem fine_t {n : Nat} {ds : List D} (h : ∀ d ∈ ds, fine n d) : fine (n + 1) (.tuple ds) := by
  obtain ⟨a, b⟩ := fine_all h
  exact ⟨by simpa [PyData.canLay0] using a, by simpa [PyData.depth] using b⟩
theorem fine_i {n : Nat} {i : Int} : fine n (.int i) := ⟨by simp [PyData.canLay0], by simp [PyData.depth]⟩
theorem fine_n {n : Nat} : fine n .none := ⟨by simp [PyData.canLay0], by simp [PyData.depth]⟩
theorem fine_s {n : Nat} {x : Str} (h : PyData.strOk x = true) : fine n (.str x) := ⟨by simpa [PyData.canLay0] using h, by simp [PyData.depth]⟩
theorem fine_le {n m : Nat} {d : D} (h : fine n d) (hm : n ≤ m) : fine m d := ⟨h.1, Nat.le_trans h.2 hm⟩
theorem fine_sh {n : Nat} {d : D} (h : fine n d) (hn : n ≤ 64) : SeqAt.shaped d = true := by
  unfold SeqAt.shaped
  rw [h.1, Bool.true_and, decide_eq_true_eq]; exact Nat.le_trans h.2 hn
theorem eqv_i {a b : Int} : PyData.eqv (.int a) (.int b) = decide (a = b) := by
  simp only [PyData.eqv]
  show (a == b) = _
  rw [show (a == b) = decide (a = b) from rfl]
theorem eqv_s {a b : Str} : PyData.eqv (.str a) (.str b) = decide (a = b) := by
  simp only [PyData.eqv]
  by_cases h : a = b
  · subst h; simp
  · rw [decide_eq_false h]; simpa using h
theorem eqv_t {a b : List D} : PyData.eqv (.tuple a) (.tuple b) = PyData.eqvAll a b := by simp only [PyData.eqv]
theorem eqv_l {a b : List D} : PyData.eqv (.list a) (.list b) = PyData.eqvAll a b := by simp only [PyData.eqv]
theorem eqv_c {x y : D} {a b : List D} : PyData.eqvAll (x :: a) (y :: b) = (PyData.eqv x y && PyData.eqvAll a b) := by simp only [PyData.eqvAll]
theorem eqv_0 : PyData.eqvAll [] [] = true := by simp only [PyData.eqvAll]
theorem eqv_10 {x : D} {a : List D} : PyData.eqvAll (x :: a) [] = false := by simp only [PyData.eqvAll]
theorem eqv_01 {x : D} {a : List D} : PyData.eqvAll [] (x :: a) = false := by simp only [PyData.eqvAll]
theorem gEq_of {x y : D} (hx : SeqAt.shaped x = true) (hy : SeqAt.shaped y = true) : gEq x y = some (PyData.eqv x y) := by
  unfold gEq
  split
  · simp only [PyData.eqv]
  · simp only [PyData.eqv]
  · simp only [PyData.eqv]
  · rw [hx, hy]; rfl
end DL
namespace DL
open PySem PySem.Spec PyProof.Rows L2
/-! ### list(range(..)), tuple(range(..)) -/
end DL
namespace DL
open PySem PySem.Spec PyProof.Rows L2
/-! ### the end: the script as a law gets it -/
def notLst (v : Value) : Bool := match v with
  | .type s => !(s == "list")
  | _ => true
def noLists (K : PySem.W.Frag) : Bool := K.all fun p => notLst p.2.cls
theorem noLists_ok : ∀ {K : PySem.W.Frag} {a : Addr} {o : Obj}, noLists K = true → K.lookup a = some o → o.cls ≠ .type "list"
  | [], _, _, _, h => nomatch h
  | (b, p) :: K, a, o, hn, h => fun hc => by
    unfold noLists at hn
    rw [List.all_cons, Bool.and_eq_true] at hn
    rw [List.lookup_cons] at h
    split at h
    · cases h
      have := hn.1
      simp only [hc] at this
      exact absurd this (by decide)
    · exact noLists_ok (K := K) hn.2 h hc
def spL : Sp := fun vs H Q _ => ∃ (a : Addr) (ns : List Int), vs = [.ref a] ∧ Rd H a (.lst (ns.map V.int)) ∧ ns.length ≤ 63 ∧ ∀ H', Q (.bl true) H'
theorem spL_of {K : PySem.W.Frag} {H : Hp} {a : Addr} {ns : List Int} {E : XK} (hS : SqL K H a (ns.map V.int)) (hl : ns.length ≤ 63) (hN : noLists K = true) : spL [.ref a] H (fun v _ => v = .bl true) E := by
  refine ⟨a, ns, rfl, ?_, hl, fun _ => rfl⟩
  rcases hS with h | ⟨o, its, n, hk, hc, _⟩
  · exact h
  · exact absurd hc (noLists_ok hN hk)
/-- what a law asks of its own def -/
def LawOk (sem : M Rs) : Prop := ∀ script : List Int, script.length ≤ 63 → ∃ ρ', sem [.fz (.list (script.map .int))] = .ok (.fz (.bool true)) ρ'
theorem spL_imp {K : KW} {sem : M Rs} (h : LawOk sem) : ∀ vs H Q E, spL vs H Q E → spD K 1 sem vs H Q E := fun vs H Q E ⟨a, ns, e, hr, hl, q⟩ => by
  subst e
  obtain ⟨ρ', hs⟩ := h ns hl
  have hF : Rd (fun b => if b = a then H a else none) a (.lst (ns.map V.int)) := by
    rcases hr with z | ⟨o, z⟩
    · exact .inl ((if_pos rfl).trans z)
    · exact .inr ⟨o, (if_pos rfl).trans z⟩
  have no : ∀ i b, ¬ HdAt [some (V.ref a)] [Sl.fz (.list (ns.map .int))] i b := fun i b z => by
    rcases z with ⟨_, d, z⟩ | ⟨_, d, z⟩ <;>
    · match i, z with
      | 0, z => cases z
      | i + 1, z => cases z
  refine ⟨rfl, fun b => if b = a then H a else none, _, _, ρ', ⟨fun b o z => ?_, rfl, fun i s z => ?_, fun i j b z _ => absurd z (no i b)⟩, hs, fun F' H' v x r => ?_⟩
  · by_cases hb : b = a
    · subst hb; exact (if_pos rfl).symm.trans z
    · exact nomatch (if_neg hb).symm.trans z
  · match i, z with
    | 0, z =>
      cases z
      exact ⟨.ref a, rfl, .lst hF (RpA.of_ints ns)⟩
    | i + 1, z => cases z
  · have r : Rp K F' v (.bool true) := r
    cases r
    exact q H'
theorem law_end {P : Program} {w : World} {K : PySem.W.Frag} {mg : Str → Option Value} {k : Nat} {fa : Addr} {sem : M Rs} (h : LawOk sem)
    (q : ∃ fd : FuncData, (∀ (s : Shared) (u : Value), BindsTo s fd ⟨[u], []⟩ [("script", u)]) ∧ ∀ base : Heap, K.In base → base.Ns mainGlobals mg → FnOk P w K mg base CX0 k fa fd ["script"] (spD ⟨K, w⟩ 1 sem)) :
    ∃ fd : FuncData, (∀ (s : Shared) (u : Value), BindsTo s fd ⟨[u], []⟩ [("script", u)]) ∧ ∀ base : Heap, K.In base → base.Ns mainGlobals mg → FnOk P w K mg base CX0 k fa fd ["script"] spL := by
  obtain ⟨fd, b, F⟩ := q
  exact ⟨fd, b, fun base h1 h2 => (F base h1 h2).imp (spL_imp h)⟩
end DL
namespace DL
open PySem PySem.Spec PyProof.Rows L2
/-! ### a tuple the other way round -/
/-! ### range(a, b, -1) -/
end DL
namespace DL
open PySem PySem.Spec PyProof.Rows L2
/-! ### zip of two, each a list or a tuple -/
def ItX (t : Bool) (h : Heap) (it a : Addr) (k : Nat) : Prop := if t = true then h.IsTupleIter it a k else h.IsListIter it a k
theorem ItX.at {t : Bool} {h h' : Heap} {it a : Addr} {k : Nat} (x : ItX t h it a k) (e : ∀ o, h.get? it = some o → h'.get? it = some o) : ItX t h' it a k := by
  cases t
  · exact Heap.IsListIter.at x e
  · exact Heap.IsTupleIter.at x e
end DL
namespace DL
open PySem PySem.Spec PyProof.Rows L2
end DL
namespace DL
open PySem PySem.Spec PyProof.Rows L2
theorem cgs {X : Cx} {x v : Str} {pos : Pos} (hg : Gl X x) (h : ∃ u, X.mg x = some u ∧ RelV (.str v) u) (hd : (x == ("__debug__" : Str)) = false := by decide) : PE X (.Name x pos) (tSem X.kw (dC (.str v))) := by
  obtain ⟨u, hm, r⟩ := h
  exact cg hg hm r (fun _ _ => .str v) hd
end DL
namespace DL
open PySem L2
end DL
namespace DL
open PySem PySem.Spec PyProof.Rows L2
/-! ### set(..) of a list of ints, sorted -/
end DL
namespace DL
open PySem PySem.Spec PyProof.Rows L2
/-! ### dict(..) of a list of pairs, of a dict -/
end DL
-- 26
namespace DL
open PySem L2
/-! ### the look at two values by a list of what waits -/
end DL
-- 26
namespace DL
open PySem L2
/-! ### encodings that tell their values apart -/
def EqE {α : Type} [DecidableEq α] (enc : α → D) : Prop := ∀ a b, PyData.eqv (enc a) (enc b) = decide (a = b)
theorem eqE_int : EqE PyData.int := fun a b => eqv_i
theorem eqvAll_map {α : Type} [DecidableEq α] {enc : α → D} (h : EqE enc) : ∀ (xs ys : List α), PyData.eqvAll (xs.map enc) (ys.map enc) = decide (xs = ys)
  | [], [] => by rw [List.map_nil, eqv_0]; rfl
  | [], y :: ys => by rw [List.map_nil, List.map_cons, eqv_01]; rfl
  | x :: xs, [] => by rw [List.map_nil, List.map_cons, eqv_10]; rfl
  | x :: xs, y :: ys => by
    rw [List.map_cons, List.map_cons, eqv_c, h, eqvAll_map h xs ys]
    by_cases e : x = y
    · subst e
      by_cases e2 : xs = ys
      · subst e2; simp
      · simp [e2]
    · simp [e]
theorem eqE_lst {α : Type} [DecidableEq α] {enc : α → D} (h : EqE enc) : EqE (fun xs : List α => PyData.list (xs.map enc)) := fun a b => by rw [eqv_l, eqvAll_map h]
theorem eqE_pair {α β : Type} [DecidableEq α] [DecidableEq β] {e1 : α → D} {e2 : β → D} (h1 : EqE e1) (h2 : EqE e2) : EqE (fun t : α × β => PyData.tuple [e1 t.1, e2 t.2]) := fun a b => by
  rw [eqv_t, eqv_c, eqv_c, eqv_0, h1, h2]
  obtain ⟨a1, a2⟩ := a; obtain ⟨b1, b2⟩ := b
  by_cases z1 : a1 = b1 <;> by_cases z2 : a2 = b2 <;> simp [z1, z2]
theorem any_e {α : Type} [DecidableEq α] {enc : α → D} (h : EqE enc) (v : α) (L : List α) : ((L.map enc).any fun z => PyData.eqv z (enc v)) = decide (v ∈ L) := by
  induction L with
  | nil => simp
  | cons x xs ih =>
    rw [List.map_cons, List.any_cons, ih, h]
    by_cases e : x = v
    · subst e; simp
    · have e' : ¬ v = x := fun z => e z.symm
      simp [e, e']
theorem gIn_l0 {x : D} {ds : List D} (h1 : SeqAt.shaped x = true) (h2 : SeqAt.shaped (.list ds) = true) : gIn x (.list ds) = some (ds.any fun z => PyData.eqv z x) := by
  have e : gIn x (.list ds) = if (SeqAt.shaped x && SeqAt.shaped (.list ds)) = true then some (ds.any fun z => PyData.eqv z x) else none := by cases x <;> rfl
  rw [e, h1, h2]; rfl
section
variable {α : Type} [DecidableEq α] {enc : α → D} {n : Nat}
theorem gIn_l (h : EqE enc) (hn : n ≤ 63) {v : α} {L : List α} (hv : fine n (enc v)) (hL : ∀ x ∈ L, fine n (enc x)) : gIn (enc v) (.list (L.map enc)) = some (decide (v ∈ L)) := by
  have s1 : SeqAt.shaped (enc v) = true := fine_sh hv (by omega)
  have s2 : SeqAt.shaped (.list (L.map enc)) = true := fine_sh (n := n + 1) (fine_l fun d hd => by obtain ⟨x, hx, rfl⟩ := List.mem_map.mp hd; exact hL x hx) (by omega)
  rw [gIn_l0 s1 s2, any_e h]
theorem gNotIn_of {x y : D} {b : Bool} (h : gIn x y = some b) : gNotIn x y = some (!b) := by unfold gNotIn; rw [h]; rfl
theorem gEq_e (h : EqE enc) (hn : n ≤ 64) {a b : α} (ha : fine n (enc a)) (hb : fine n (enc b)) : gEq (enc a) (enc b) = some (decide (a = b)) := by
  rw [gEq_of (fine_sh ha hn) (fine_sh hb hn), h]
end
theorem fine_lm {α : Type} {enc : α → D} {n : Nat} {L : List α} (h : ∀ x ∈ L, fine n (enc x)) : fine (n + 1) (.list (L.map enc)) := fine_l fun d hd => by obtain ⟨x, hx, rfl⟩ := List.mem_map.mp hd; exact h x hx
/-! ### dicts of pairs whose keys differ -/
end DL
namespace DL
open PySem PySem.Spec PyProof.Rows L2
/-! ### a dict is locked while it is walked -/
end DL
namespace DL
open PySem PySem.Spec PyProof.Rows L2
end DL
namespace DL
open PySem PySem.Spec PyProof.Rows L2
section
variable {K : KW} {F H F' H' : Hp} {σ σ' : SS} {ρ ρ' : List Sl} {X : Cx}
/-! ### sorted(..) of what is collected first -/
theorem sorted_after {pins : List (Addr × Obj)} {s : Shared} {Q : VK} {x : Value} {vs : List V} {ds : List D} (hu : X.A.units + 64 < cLine) (sm : Same F H) (ra : RpA X.kw F vs ds) (ok : sortOk ds = true)
    (q : NewR X.kw F H (.ow (.list (sortD ds))) Q)
    (hcol : ∀ Q' : List Value → Shared → Prop, (∀ (s' : Shared) (us : List Value), Inv X pins σ H s' → Vals vs us → Q' us s') → wpAny (model X.prog X.w) X.A.in1 (collect x) Q' X.xe s) :
    wpAny (model X.prog X.w) X.A (call (.builtin "sorted") [x]) (EP X pins σ Q) X.xe s := by
  unfold sortOk at ok
  simp only [Bool.and_eq_true, Bool.or_eq_true, decide_eq_true_eq, List.all_eq_true] at ok
  obtain ⟨⟨⟨⟨h1, h2⟩, h3⟩, h4⟩, h5⟩ := ok
  have hlen := ra.length
  have snd : (vs.zip ds).map (·.2) = ds := zip_snd hlen
  have mem2 : ∀ p ∈ vs.zip ds, p.2 ∈ ds := fun p hp => by rw [← snd]; exact List.mem_map.mpr ⟨p, hp, rfl⟩
  refine Calls.call_function_entry PyProof.Rows.kind_sorted PyProof.Rows.plain_sorted PyProof.Rows.entry_sorted (PyProof.Rows.args_sorted1 _) ?_
  unfold Builtin.«sorted»
  refine wpAny_bind (m := checkCount "sorted" 1 1 _) (wpAny_pure ?_)
  refine wpAny_bind (hcol _ fun s' us I1 rv => ?_)
  obtain ⟨h', g', d', tk, os'⟩ := s'
  have hul : us.length = ds.length := by rw [← rv.length, hlen]
  have h5' : us.length ≤ sizeLine := by rw [hul]; exact h5
  refine wpAny_bind (wpAny_newList ?_ h5')
  have hoL : (h'.push (seqObj "list" us.toArray 0)).get? h'.objs.size = some (seqObj "list" us.toArray 0) := Heap.get?_push_size _ rfl
  show wpAny _ _ _ _ _ ⟨h'.push (seqObj "list" us.toArray 0), g', d', tk, os'⟩
  have keep : ∀ b o, h'.get? b = some o → (PySem.W.sortingHeap (h'.push (seqObj "list" us.toArray 0)) h'.objs.size us).get? b = some o := fun b o e =>
    PySem.W.sortingHeap_old (Nat.ne_of_lt (Heap.lt_size e)) (Heap.get?_push_of_some _ e)
  have e0 : PySem.W.EachIs (fun u (p : V × D) => RelV p.1 u) us (vs.zip ds) := each_zip rv hlen fun v u d r _ => r
  have er : PySem.W.EachIs (fun v (p : V × D) => ∃ as, Reads (PySem.W.sortingHeap (h'.push (seqObj "list" us.toArray 0)) h'.objs.size us) v p.2 as) us (vs.zip ds) :=
    each_zip rv hlen fun v u d r hm => by
      obtain ⟨as, q⟩ := Dp.reads I1 d v u ((rp_zip ra _ hm).dp sm (h2 d (mem2 _ hm))) r
      exact ⟨as, PyProof.Rows.Reads.keeps keep q⟩
  have hal : PySem.W.AllAlike ((vs.zip ds).map (·.2)) := by rw [snd]; exact fun d hd e he => h1 d hd e he
  have hk : PySem.W.Sortable ((vs.zip ds).map (·.2)) := by
    rw [snd]
    rcases h3 with h3 | h3
    · refine .inl fun d hd => ?_
      have := h3 d hd
      cases d with
      | tuple xs =>
        cases xs with
        | nil => cases this
        | cons x r => exact ⟨x, r, rfl⟩
      | _ => cases this
    · refine .inr fun d hd => ?_
      have := h3 d hd
      cases d with
      | none => cases this
      | tuple _ => cases this
      | _ => exact ⟨fun z => (nomatch z), fun _ z => (nomatch z)⟩
  have hbd : ∀ p : V × D, p ∈ vs.zip ds → X.A.units + 2 + p.2.depth < cLine := fun p hp => by
    have := h4 p.2 (mem2 p hp)
    omega
  have S := PySem.W.SortsAt.data (prog := X.prog) (w := X.w) (A := X.A.in1.in1) (s := ⟨PySem.W.sortingHeap (h'.push (seqObj "list" us.toArray 0)) h'.objs.size us, g', d', tk, os'⟩) (PySem.W.each_map (R := fun v d => ∃ as, Reads (PySem.W.sortingHeap (h'.push (seqObj "list" us.toArray 0)) h'.objs.size us) v d as) (fun p : V × D => p.2) er) hal hk (PySem.W.bound_map hbd)
  refine wpAny_bind (wpAny_holding (wpAny_call_entry PyProof.Rows.slot_list_sort ⟨_, hoL, rfl⟩ PyProof.Rows.entry_list_sort
    (PySem.W.list_sort_vals (s := ⟨h'.push (seqObj "list" us.toArray 0), g', d', tk, os'⟩) hoL S h5' ⟨_, rfl, ?_⟩) (PyProof.Rows.args_list_sort _)))
  have he := PySem.W.sortVals_data (h' := PySem.W.sortingHeap (h'.push (seqObj "list" us.toArray 0)) h'.objs.size us) false e0 er hal
  generalize PySem.W.sortVals _ false us us = out at he
  have va := vals_each he
  obtain ⟨e', he'⟩ := PyProof.Rows.sortedHeap_at (vs := us) (out := out.toArray) hoL
  have hout : ((vs.zip ds).mergeSort (PySem.W.dataLe false (·.2))).length = ds.length := by
    rw [List.length_mergeSort, List.length_zip, hlen, Nat.min_self]
  refine wpAny_pure ⟨_, rfl, .ref h'.objs.size, upd H h'.objs.size (.lst (((vs.zip ds).mergeSort (PySem.W.dataLe false (·.2))).map (·.1))), I1.laid (t' := tk) (fun b u e => ?_) (Nat.le_refl _)
    ⟨?_, out, e', va, he'⟩, rfl, ?_⟩
  · have hb : b < h'.objs.size := Heap.lt_size e
    rw [PyProof.Rows.sortedHeap_old (Nat.ne_of_lt hb) (by rw [size_push']; exact Nat.lt_succ_of_lt hb)]
    exact Heap.get?_push_of_some _ e
  · rw [List.length_map, hout]; exact h5
  · rw [← show sortD ((vs.zip ds).map (·.2)) = sortD ds by rw [snd], ← sort_maps2] at q
    exact q.lst sm (rp_back fun p hp => rp_zip ra p ((List.mergeSort_perm _ _).mem_iff.mp hp)) (I1.hok.fresh (Nat.le_refl _))
end
end DL
namespace DL
open PySem PySem.Spec PyProof.Rows L2
section
variable {P : Program} {w : World} {A : Around} {E : Value → Shared → Prop} {s : Shared}
theorem collect_tup {l : Addr} {vs : List Value} {Q : List Value → Shared → Prop} (hl : s.heap.IsTuple l vs.toArray)
    (h : Q vs { s with heap := (s.heap.push (seqObj "list" #[] 0)).update s.heap.objs.size (Obj.mapSeq (· ++ vs.toArray)) }) (hsz : vs.length ≤ sizeLine) :
    wpAny (model P w) A (collect (.ref l)) Q E s := by
  obtain ⟨o, ho, hc, n, hd⟩ := id hl
  unfold collect
  refine wpAny_bind (wpAny_runValue (codeAny_builtin entry_proto_collect' ?_))
  show wpAny _ _ (do again (.builtin "list.__iadd__" ⟨[← newList [], .ref l], []⟩)) _ _ s
  refine wpAny_bind (wpAny_newList (wpAny_pure ⟨Code.quiet_builtin _ (by decide +kernel), codeAny_builtin entry_list_iadd' ?_⟩))
  show wpAny _ _ (Builtin.List.listExtendWith (.ref s.heap.objs.size) (.ref l) (.ref s.heap.objs.size)) _ _ { s with heap := s.heap.push (seqObj "list" #[] 0) }
  unfold Builtin.List.listExtendWith
  have ho' : (s.heap.push (seqObj "list" #[] 0)).get? l = some o := Heap.get?_push_of_some _ ho
  refine wpAny_bind (wpAny_typeOf (T := "tuple") ⟨o, ho', hc⟩ ?_)
  have ht : (Value.type "tuple" == Value.type "tuple") = true := by rfl
  rw [if_pos (by rw [ht]; simp)]
  refine wpAny_bind (listItems_at ho' hd ?_)
  refine wpAny_bind (listItems_at (xs := #[]) (n := 0) (Heap.get?_push_size _ rfl) rfl ?_)
  rw [if_neg (by simp)]
  refine wpAny_bind (listUpdate_at (xs := #[]) (n := 0) (Heap.get?_push_size _ rfl) rfl ?_ (Nat.zero_le _) (by show (#[] ++ vs.toArray).size ≤ sizeLine + 1; simp only [Array.size_append, List.size_toArray, List.length_nil]; omega))
  refine wpAny_pure ?_
  show wpAny (model P w) A (do
      let o ← load s.heap.objs.size
      match o.data with
      | .seq xs _ => pure xs.toList
      | _ => unsupported "internal:collect") Q E { s with heap := (s.heap.push (seqObj "list" #[] 0)).update s.heap.objs.size (Obj.mapSeq (· ++ vs.toArray)) }
  refine wpAny_bind (wpAny_load (get?_update_seq (Heap.get?_push_size _ rfl) _) ?_)
  show wpAny _ _ (pure ((#[] : Array Value) ++ vs.toArray).toList) Q E _
  rw [show ((#[] : Array Value) ++ vs.toArray).toList = vs by simp]
  exact wpAny_pure h
end
/-! ### sorted(..) of a list, a tuple, a dict's keys -/
def gSortedX : List D → Option Rs
  | [.list ds] => if sortOk ds then some (.ow (.list (sortD ds))) else none
  | [.tuple ds] => if sortOk ds then some (.ow (.list (sortD ds))) else none
  | [.dict kvs] => if isK kvs = true ∧ sortOk (kvs.map (·.1)) then some (.ow (.list (sortD (kvs.map (·.1))))) else none
  | _ => none
theorem rpA_keys {K : KW} {F : Hp} : ∀ {kvs : List (Key × V)} {ds : List (D × D)}, RpK K F kvs ds → RpA K F (kvs.map fun p => kV p.1) (ds.map (·.1))
  | _, _, .nil => .nil
  | _, _, .cons (k := k) h t => by
    rw [List.map_cons, List.map_cons]
    refine .cons ?_ (rpA_keys t)
    cases k with
    | inl i => exact .int i
    | inr x => exact .str x
section
variable {X : Cx}
theorem vals_keys : ∀ {ks : List Key} {us : List Value}, us.length = ks.length → (∀ (j : Nat) (v : Value), us[j]? = some v → ∃ k, ks[j]? = some k ∧ keyIs k v = true) → Vals (ks.map kV) us
  | [], [], _, _ => .nil
  | [], _ :: _, h, _ => by simp at h
  | _ :: _, [], h, _ => by simp at h
  | k :: ks, u :: us, h, f => by
    rw [List.map_cons]
    refine .cons ?_ (vals_keys (by simpa using h) fun j v e => by
      obtain ⟨k', e1, e2⟩ := f (j + 1) v (by simpa using e)
      exact ⟨k', by simpa using e1, e2⟩)
    obtain ⟨k', e1, e2⟩ := f 0 u rfl
    have e1 : some k = some k' := e1
    cases e1
    rcases keyIs_shape e2 with ⟨i, t, ek, ev⟩ | ⟨z, t, ek, ev⟩
    · subst ek; subst ev; exact ⟨t, rfl⟩
    · subst ek; subst ev; exact ⟨t, rfl⟩
theorem cSortedX (hc : X.calm = true) (hu : X.A.units + 64 < cLine) : CallR X (.builtin "sorted") (rGN X.kw gSortedX) := by
  intro pins s σ H xs us Q I r ⟨F, ds, res, sm, hx, e, q⟩
  unfold gSortedX at e
  split at e
  · split at e
    case isFalse => cases e
    case isTrue ok =>
      cases e
      obtain ⟨x, rfl, hw⟩ := hx.one
      obtain ⟨a, vs, ev, h1, r1⟩ := hw.list sm
      subst ev
      obtain ⟨u, rfl, rx⟩ := vals1 r
      cases rx
      obtain ⟨its, rv, hl, _⟩ := I.list (.inl h1 : SqL X.kw H a vs)
      exact sorted_seq hu I sm hl.isList rv r1 ok q
  · split at e
    case isFalse => cases e
    case isTrue ok =>
      cases e
      obtain ⟨x, rfl, hw⟩ := hx.one
      obtain ⟨a, vs, ev, h1, r1⟩ := hw.tuple sm
      subst ev
      obtain ⟨u, rfl, rx⟩ := vals1 r
      cases rx
      obtain ⟨its, rv, hl, hz⟩ := I.tuple h1
      refine sorted_after hu sm r1 ok q fun Q' hq => ?_
      have hsz : its.length ≤ sizeLine := by
        have h5 : _ ≤ sizeLine := (by
          unfold sortOk at ok
          simp only [Bool.and_eq_true, decide_eq_true_eq] at ok
          exact ok.2)
        rw [← rv.length, r1.length]; exact h5
      refine collect_tup (show s.heap.IsTuple a its.toArray from hl) (hq _ its (I.kept (t' := s.toks) fun b o e => ?_) rv) hsz
      exact Heap.get?_update_of_ne _ (Nat.ne_of_gt (Heap.lt_size e)) (Heap.get?_push_of_some _ e)
  · split at e
    case isFalse => cases e
    case isTrue ok =>
      cases e
      obtain ⟨x, rfl, hw⟩ := hx.one
      obtain ⟨a, kvs, ev, h1, r1⟩ := hw.dict sm ok.1
      subst ev
      obtain ⟨u, rfl, rx⟩ := vals1 r
      cases rx
      obtain ⟨z, lo, vs, rel, dd⟩ := dk_rd I.hok h1
      obtain ⟨ep, hat⟩ := dd.dictAt
      refine sorted_after hu sm (rpA_keys r1) ok.2 q fun Q' hq => ?_
      have hlen : vs.length = kvs.length := rel.length.symm
      have h16 : vs.length ≤ sizeLine := by rw [hlen]; exact z
      refine PySem.W.kdu_collect (PySem.W.kdl_dict (knd := mixKind X.prog X.w) (kvs := vs) (ep := ep) lo) (I.ok.hd hc) hat h16 fun h' tk acc hk hacc => ?_
      refine hq _ acc.toList (I.kept hk) ?_
      have hal : acc.toList.length = kvs.length := by rw [Array.length_toList, hacc.1, hlen]
      rw [show (kvs.map fun p => kV p.1) = (kvs.map (·.1)).map kV by rw [List.map_map]; rfl]
      refine vals_keys (by rw [hal, List.length_map]) fun j v e => ?_
      obtain ⟨k, x, e1, e2⟩ := hacc.2 j v (by rw [← Array.getElem?_toList]; exact e)
      refine ⟨k, ?_, e2⟩
      rw [rel.keys, List.getElem?_map, e1]; rfl
  · cases e
end
theorem gSortedX_l {ds : List D} (h : sortOk ds = true) : gSortedX [.list ds] = some (.ow (.list (sortD ds))) := if_pos h
end DL
namespace DL
open PySem PySem.Spec PyProof.Rows L2
/-! ### the rules of reckoning -/
end DL
namespace DL
open PySem PySem.Spec PyProof.Rows L2
/-! ### sets of ints and texts that can be walked -/
def keyV (v : Value) : Key := match v with
  | .int k _ => .inl k
  | .str x _ => .inr x
  | _ => .inl 0
def GoodK (P : Program) (w : World) (e : Int × Value) : Prop := ∃ k, keyIs k e.2 = true ∧ e.1 = (mixKind P w).hash k
def kOf (e : Int × Value) : Key := keyV e.2
/-- the set at a: S its members, n their number; its table rises and can be walked -/
def SetRK (P : Program) (w : World) (h : Heap) (a : Addr) (S : Key → Bool) (n : Nat) : Prop :=
  ∃ o es ep t, h.get? a = some o ∧ o.ExactSet ∧ o.data = .set es ep t ∧ (∀ e ∈ es.toList, GoodK P w e) ∧ (es.toList.map kOf).Nodup ∧ (∀ k, S k = true ↔ k ∈ es.toList.map kOf) ∧
    es.size < scanBound ∧ t.fits es.size = true ∧ es.size = n ∧ Ris t.place.toList ∧ (w.params.followText "set-order" = true ∨ t.led = true)
section
variable {P : Program} {w : World} {h h' : Heap} {a : Addr} {S : Key → Bool} {n : Nat}
theorem SetRK.at (R : SetRK P w h a S n) (k : ∀ o, h.get? a = some o → h'.get? a = some o) : SetRK P w h' a S n := by
  obtain ⟨o, es, ep, t, ho, r⟩ := R
  exact ⟨o, es, ep, t, k o ho, r⟩
end
end DL
namespace DL
open PySem PySem.Spec PyProof.Rows L2
/-! ### the members, each once, in order -/
end DL
-- 26 35
namespace DL
open PySem L2
/-! ### dicts by their texts and a function -/
end DL
/-! DL39: a, b = x, y where names are shared with inner functions: through a pair -/
namespace DL
open PySem PySem.Spec PyProof.Rows L2
end DL
/-! DL40: list(dict) -/
namespace DL
open PySem PySem.Spec PyProof.Rows L2
end DL
/-! DL41: set(tuple of keys), sorted(set(..)) of texts in a list or a tuple -/
namespace DL
open PySem PySem.Spec PyProof.Rows L2
end DL
/-! DL42: sorted(d.items()), list(d.items()) -/
namespace DL
open PySem PySem.Spec PyProof.Rows L2
end DL
/-! DL43: dict.get -/
namespace DL
open PySem PySem.Spec PyProof.Rows L2
end DL
/-! DL44: list(d.items()) -/
namespace DL
open PySem PySem.Spec PyProof.Rows L2
end DL
/-! DL45: == of lists of unlike lengths and of tuples with a plain front, whatever they hold -/
namespace DL
open PySem PySem.Spec PyProof.Rows L2
open PySem.SeqAt (EqAt RcAt RcNeAt)
end DL
/-! DL46: == and != of data that are the same, dicts within -/
namespace PySem.SeqAt
open AutoSeq1 (wpAny_loadPart')
open MeetsSeq MeetsSeq2 MeetsSeq3 SeqRoads2
end PySem.SeqAt
namespace DL
open PySem PySem.Spec PyProof.Rows L2
open PySem.SeqAt (EqIn EqAt)
open PySem.W (EqTree eq_tuplesT eq_listsT eq_dictsT)
end DL
/-! DL47: min and max of a list of tuples (of data alike) -/
namespace DL
open PySem PySem.Spec PyProof.Rows L2 PySem.W
end DL
/-! DL48: tuples of texts that the module holds -/
namespace DL
open PySem PySem.Spec PyProof.Rows L2
end DL
namespace DL
open PySem PySem.Spec PyProof.Rows L2
end DL
/-! DL49: methods of tuples, dicts with tuple keys -/
namespace DL
open PySem PySem.Spec PyProof.Rows L2
end DL
/-! DL50: dicts with tuple keys: sorted(d), list(d), dict(pairs) -/
namespace DL
open PySem PySem.Spec PyProof.Rows L2
end DL
/-! DL51: list.count, list.remove of data -/
namespace DL
open PySem PySem.Spec PyProof.Rows L2
end DL
/-! DL52: a, b, c, d = x, y, z, w: four names through a tuple -/
namespace DL
open PySem PySem.Spec PyProof.Rows L2
section
variable {K : KW} {F H F' H' : Hp} {σ σ' : SS} {ρ ρ' : List Sl} {P : Nat → Prop}
theorem RsA.laid {H₀ : Hp} {vs : List V} {rs : List Rs} {p : Addr} {o : HO} (h : RsA K H₀ F H σ ρ vs rs) (n : H p = none) : RsA K H₀ F (upd H p o) σ ρ vs rs := by
  refine ⟨h.len, fun i w s h1 h2 => ?_, h.dj⟩
  have q := h.at_ i w s h1 h2
  cases s with
  | fz d => exact q
  | nm i => exact q
  | ow d =>
    obtain ⟨a, e, h0, hf, ho, hn⟩ := q
    obtain ⟨ob, eo⟩ := ho.some
    have hne : a ≠ p := fun z => by rw [z, n] at eo; cases eo
    exact ⟨a, e, h0, hf, ho.mono (Same.refl _) (upd_ne hne), hn⟩
end
end DL
/-! DL53: sorted(xs, key=f), f a def of the program -/
namespace DL
open PySem PySem.Spec PyProof.Rows L2
end DL
/-! DL54: list(text) -/
namespace DL
open PySem PySem.Spec PyProof.Rows L2
def gListS : List D → Option Rs
  | [.str x] => if x.length ≤ sizeLine then some (.ow (.list (x.cps.toList.map fun c => .str ⟨#[c]⟩))) else none
  | _ => none
theorem rpA_signs {K : KW} {F : Hp} : ∀ l : List Nat, RpA K F (l.map fun c => V.str ⟨#[c]⟩) (l.map fun c => PyData.str ⟨#[c]⟩)
  | [] => .nil
  | c :: l => .cons (.str _) (rpA_signs l)
theorem cListS {X : Cx} (hc : X.calm = true) : CallR X (.type "list") (rGN X.kw gListS) := by
  intro pins s σ H xs us Q I r ⟨F, ds, res, sm, hx, e, q⟩
  unfold gListS at e
  split at e
  · rename_i x
    split at e
    case isFalse => cases e
    case isTrue hl =>
    cases e
    obtain ⟨v, rfl, hw⟩ := hx.one
    have hw := hw.str
    subst hw
    obtain ⟨u, rfl, rx⟩ := vals1 r
    obtain ⟨t, rfl⟩ := rx
    refine call_list_str (hn := hl) (I.ok.hd hc) x t fun h' tk acc' c' hk hS hacc => ?_
    refine ⟨.ref s.heap.objs.size, upd H s.heap.objs.size (.lst (x.cps.toList.map fun c => V.str ⟨#[c]⟩)), I.laid hk (Nat.le_refl _) (show ObjOk X.prog X.w _ _ _ (.lst (x.cps.toList.map fun c => V.str ⟨#[c]⟩)) from ⟨?_, acc'.toList, c', ?_, ?_⟩), rfl, q.lst sm (rpA_signs _) (I.hok.fresh (Nat.le_refl _))⟩
    · rw [List.length_map, Array.length_toList]; exact hl
    · refine vals_of_at (by rw [List.length_map, Array.length_toList, Array.length_toList, hacc.1]) fun j y w h1 h2 => ?_
      obtain ⟨c, u, hcu, rfl⟩ := hacc.2 j w (by rw [← Array.getElem?_toList]; exact h2)
      rw [List.getElem?_map, Array.getElem?_toList, hcu] at h1
      cases h1
      exact ⟨u, rfl⟩
    · rw [Array.toArray_toList]; exact hS
  · cases e
end DL
/-! TL: typed readings of defs over DL: modes of slots, values told by Lean functions -/
namespace TL
open PySem L2 DL
inductive Ms where
  | any | fz (d : D) | ow (d : D) | lk (d : D) | rd (d : D)
def Mo : Ms → Sl → Prop
  | .any, _ => True
  | .fz d, s => s = .fz d
  | .ow d, s => s = .ow d
  | .lk d, s => s = .lk d
  | .rd d, s => s = .fz d ∨ s = .ow d ∨ s = .lk d
def Ec : List Ms → List Sl → Prop
  | [], [] => True
  | m :: E, s :: ρ => Mo m s ∧ Ec E ρ
  | _, _ => False
theorem Ec.len : ∀ {E : List Ms} {ρ : List Sl}, Ec E ρ → E.length = ρ.length
  | [], [], _ => rfl
  | _ :: _, _ :: _, h => by rw [List.length_cons, List.length_cons, Ec.len h.2]
  | [], _ :: _, h => h.elim
  | _ :: _, [], h => h.elim
theorem Ec.get : ∀ {E : List Ms} {ρ : List Sl} {i : Nat} {m : Ms}, Ec E ρ → E[i]? = some m → ∃ s, ρ[i]? = some s ∧ Mo m s
  | [], [], _, _, _, e => by simp at e
  | [], _ :: _, _, _, h, _ => h.elim
  | _ :: _, [], _, _, h, _ => h.elim
  | _ :: _, s :: _, 0, _, h, e => by simp at e; subst e; exact ⟨s, by simp, h.1⟩
  | _ :: _, _ :: _, i + 1, _, h, e => by
    obtain ⟨s, e1, e2⟩ := Ec.get (i := i) h.2 (by simpa using e)
    exact ⟨s, by simpa using e1, e2⟩
theorem Ec.set : ∀ {E : List Ms} {ρ : List Sl} {m : Ms} {s : Sl} (i : Nat), Ec E ρ → Mo m s → Ec (E.set i m) (ρ.set i s)
  | [], [], _, _, _, _, _ => trivial
  | [], _ :: _, _, _, _, h, _ => h.elim
  | _ :: _, [], _, _, _, h, _ => h.elim
  | _ :: _, _ :: _, _, _, 0, h, q => ⟨q, h.2⟩
  | _ :: _, _ :: _, _, _, i + 1, h, q => ⟨h.1, Ec.set i h.2 q⟩
theorem Ec.app : ∀ {E E' : List Ms} {ρ ρ' : List Sl}, Ec E ρ → Ec E' ρ' → Ec (E ++ E') (ρ ++ ρ')
  | [], _, [], _, _, h => h
  | [], _, _ :: _, _, h, _ => h.elim
  | _ :: _, _, [], _, h, _ => h.elim
  | _ :: _, _, _ :: _, _, h, q => ⟨h.1, Ec.app h.2 q⟩
theorem Ec.anys : ∀ n, Ec (List.replicate n .any) (List.replicate n .em)
  | 0 => trivial
  | n + 1 => ⟨trivial, Ec.anys n⟩
/-- less is known -/
def Lm : Ms → Ms → Prop
  | _, .any => True
  | .fz d, .fz e => d = e
  | .ow d, .ow e => d = e
  | .lk d, .lk e => d = e
  | .rd d, .rd e => d = e
  | .fz d, .rd e => d = e
  | .ow d, .rd e => d = e
  | .lk d, .rd e => d = e
  | _, _ => False
def Le : List Ms → List Ms → Prop
  | [], [] => True
  | m :: E, n :: F => Lm m n ∧ Le E F
  | _, _ => False
theorem Lm.mo {m n : Ms} {s : Sl} (h : Lm m n) (q : Mo m s) : Mo n s := by
  cases m <;> cases n <;> simp only [Lm, Mo] at h q ⊢ <;> first | trivial | (subst h; simp [q]) | (subst h; exact q) | exact h.elim | trivial
theorem Le.ec : ∀ {E F : List Ms} {ρ : List Sl}, Le E F → Ec E ρ → Ec F ρ
  | [], [], _, _, q => q
  | _ :: _, _ :: _, _ :: _, h, q => ⟨h.1.mo q.1, Le.ec h.2 q.2⟩
  | _ :: _, _ :: _, [], _, q => q.elim
  | [], _ :: _, _, h, _ => h.elim
  | _ :: _, [], _, h, _ => h.elim
theorem leT {p : Prop} (h : p := by repeat (first | exact True.intro | exact rfl | apply And.intro)) : p := h
theorem set_self' {α : Type} : ∀ {l : List α} {i : Nat} {a : α}, l[i]? = some a → l.set i a = l
  | [], _, _, h => by simp at h
  | x :: xs, 0, a, h => by simp at h; subst h; rfl
  | x :: xs, i + 1, a, h => by rw [List.set_cons_succ, set_self' (by simpa using h)]
theorem Ec.setR {E : List Ms} {ρ : List Sl} {i : Nat} {m : Ms} {s : Sl} (h : Ec E ρ) (e : E[i]? = some m) (q : Mo m s) : Ec E (ρ.set i s) := by
  have := h.set i q
  rwa [set_self' e] at this
theorem ltT {p : Prop} (h : p := by first | decide | exact of_decide_eq_true rfl) : p := h
/-- what kind of result: for good, new, either, what a read slot holds, what an owned slot holds -/
inductive Kd where
  | val | new | vn | nam (i : Nat) | own (i : Nat)
def Kr : Kd → D → Rs → Prop
  | .val, d, r => r = .fz d
  | .new, d, r => r = .ow d
  | .vn, d, r => r = .fz d ∨ r = .ow d
  | .nam i, d, r => r = .fz d ∨ r = .nm i
  | .own i, _, r => r = .nm i
def RdM : Option Ms → D → Prop
  | some (.fz e), d => e = d
  | some (.ow e), d => e = d
  | some (.lk e), d => e = d
  | some (.rd e), d => e = d
  | _, _ => False
def RdR : Option Ms → D → Prop
  | some (.fz e), d => e = d
  | some (.rd e), d => e = d
  | _, _ => False
/-- the result still reads d -/
def Rdk : Kd → D → List Ms → Prop
  | .nam i, d, E => RdR E[i]? d
  | .own i, d, E => RdM E[i]? d
  | _, _, _ => True
theorem RdR.m {o : Option Ms} {d : D} (h : RdR o d) : RdM o d := by
  cases o with
  | none => exact h
  | some m => cases m <;> first | exact h | exact h.elim
theorem Ec.rd {E : List Ms} {ρ : List Sl} {i : Nat} {d : D} (h : Ec E ρ) (q : RdM E[i]? d) : ρ[i]? = some (.fz d) ∨ ρ[i]? = some (.ow d) ∨ ρ[i]? = some (.lk d) := by
  cases e : E[i]? with
  | none => rw [e] at q; exact q.elim
  | some m =>
    rw [e] at q
    obtain ⟨s, e1, e2⟩ := h.get e
    cases m with
    | any => exact q.elim
    | fz d' => have q : d' = d := q; subst q; have e2 : s = .fz d' := e2; subst e2; exact .inl e1
    | ow d' => have q : d' = d := q; subst q; have e2 : s = .ow d' := e2; subst e2; exact .inr (.inl e1)
    | lk d' => have q : d' = d := q; subst q; have e2 : s = .lk d' := e2; subst e2; exact .inr (.inr e1)
    | rd d' =>
      have q : d' = d := q; subst q
      rcases e2 with z | z | z <;> subst z
      · exact .inl e1
      · exact .inr (.inl e1)
      · exact .inr (.inr e1)
theorem look_k {k : Kd} {d : D} {r : Rs} {E : List Ms} {ρ : List Sl} (h : Kr k d r) (q : Rdk k d E) (e : Ec E ρ) : look r ρ = .ok d ρ := by
  have nm : ∀ i, RdM E[i]? d → look (.nm i) ρ = .ok d ρ := fun i q => by
    unfold look
    rcases e.rd q with z | z | z <;> simp only [z]
  cases k with
  | val => have h : r = .fz d := h; subst h; rfl
  | new => have h : r = .ow d := h; subst h; rfl
  | vn => rcases h with h | h <;> subst h <;> rfl
  | nam i => rcases h with h | h <;> subst h <;> first | rfl | exact nm i (RdR.m q)
  | own i => have h : r = .nm i := h; subst h; exact nm i q
/-- a slot is frozen -/
def frzE : Kd → D → List Ms → List Ms
  | .own i, d, E => E.set i (.fz d)
  | _, _, E => E
theorem frz_k {k : Kd} {d : D} {r : Rs} {E : List Ms} {ρ : List Sl} (h : Kr k d r) (q : Rdk k d E) (e : Ec E ρ) : ∃ ρ', frz r ρ = .ok d ρ' ∧ Ec (frzE k d E) ρ' := by
  cases k with
  | val => have h : r = .fz d := h; subst h; exact ⟨ρ, rfl, e⟩
  | new => have h : r = .ow d := h; subst h; exact ⟨ρ, rfl, e⟩
  | vn => rcases h with h | h <;> subst h <;> exact ⟨ρ, rfl, e⟩
  | nam i =>
    have q : RdR E[i]? d := q
    have hz : Ec E (ρ.set i (.fz d)) := by
      cases em : E[i]? with
      | none => rw [em] at q; exact q.elim
      | some m =>
        rw [em] at q
        cases m with
        | fz d' => have q : d' = d := q; subst q; exact e.setR em rfl
        | rd d' => have q : d' = d := q; subst q; exact e.setR em (.inl rfl)
        | _ => exact q.elim
    rcases h with h | h <;> subst h
    · exact ⟨ρ, rfl, e⟩
    · unfold frz
      rcases e.rd q.m with z | z | z <;> simp only [z]
      · exact ⟨ρ, rfl, e⟩
      · exact ⟨_, rfl, hz⟩
      · exact ⟨_, rfl, hz⟩
  | own i =>
    have h : r = .nm i := h; subst h
    have hz : Ec (E.set i (.fz d)) (ρ.set i (.fz d)) := e.set i rfl
    unfold frz
    rcases e.rd q with z | z | z <;> simp only [z]
    · exact ⟨ρ, rfl, by rwa [set_self' z] at hz⟩
    · exact ⟨_, rfl, hz⟩
    · exact ⟨_, rfl, hz⟩
theorem RdM.set {E : List Ms} {i j : Nat} {d d' : D} (q : RdM E[j]? d') (h : RdM E[i]? d) : RdM (E.set i (.fz d))[j]? d' := by
  by_cases e : i = j
  · subst e
    rcases Nat.lt_or_ge i E.length with z | z
    · rw [List.getElem?_set_self z]
      cases em : E[i]? with
      | none => rw [em] at q; exact q.elim
      | some m =>
        rw [em] at q h
        cases m <;> first | exact q.elim | (have q : _ = d' := q; have h : _ = d := h; subst q; subst h; rfl)
    · rw [List.getElem?_eq_none z] at q; exact q.elim
  · rwa [List.getElem?_set_ne e]
theorem RdR.set {E : List Ms} {i j : Nat} {d d' : D} (q : RdR E[j]? d') (h : RdM E[i]? d) : RdR (E.set i (.fz d))[j]? d' := by
  by_cases e : i = j
  · subst e
    rcases Nat.lt_or_ge i E.length with z | z
    · rw [List.getElem?_set_self z]
      cases em : E[i]? with
      | none => rw [em] at q; exact q.elim
      | some m =>
        rw [em] at q h
        cases m <;> first | exact q.elim | (have q : _ = d' := q; have h : _ = d := h; subst q; subst h; rfl)
    · rw [List.getElem?_eq_none z] at q; exact q.elim
  · rwa [List.getElem?_set_ne e]
theorem Rdk.frz {k k' : Kd} {d d' : D} {E : List Ms} (q : Rdk k d E) (h : Rdk k' d' E) : Rdk k d (frzE k' d' E) := by
  cases k' with
  | own i =>
    cases k with
    | nam j => exact RdR.set q h
    | own j => exact RdM.set q h
    | _ => trivial
  | _ => exact q
/-! ### expressions -/
def Ev (E : List Ms) (m : M Rs) (k : Kd) (d : D) (E' : List Ms) : Prop := Rdk k d E' ∧ ∀ ρ, Ec E ρ → ∃ r ρ', m ρ = .ok r ρ' ∧ Kr k d r ∧ Ec E' ρ'
def KrA : List Kd → List D → List Rs → Prop
  | [], [], [] => True
  | k :: ks, d :: ds, r :: rs => Kr k d r ∧ KrA ks ds rs
  | _, _, _ => False
def RdkA : List Kd → List D → List Ms → Prop
  | [], [], _ => True
  | k :: ks, d :: ds, E => Rdk k d E ∧ RdkA ks ds E
  | _, _, _ => False
def Ea (E : List Ms) (f : M (List Rs)) (ks : List Kd) (ds : List D) (E' : List Ms) : Prop := ∀ ρ, Ec E ρ → ∃ rs ρ', f ρ = .ok rs ρ' ∧ KrA ks ds rs ∧ Ec E' ρ'
def Tj (E : List Ms) (t : M Bool) (b : Bool) (E' : List Ms) : Prop := ∀ ρ, Ec E ρ → ∃ ρ', t ρ = .ok b ρ' ∧ Ec E' ρ'
theorem bd_eq {α β : Type} {m : M α} {k : α → M β} {ρ ρ1 : List Sl} {a : α} (h : m ρ = .ok a ρ1) : bd m k ρ = k a ρ1 := by unfold bd; rw [h]
theorem opt_eq {α : Type} {o : Option α} {ρ : List Sl} {a : α} (h : o = some a) : opt o ρ = .ok a ρ := by unfold opt; rw [h]
theorem lookA_k : ∀ {ks : List Kd} {ds : List D} {rs : List Rs} {E : List Ms} {ρ : List Sl}, KrA ks ds rs → RdkA ks ds E → Ec E ρ → lookA rs ρ = .ok ds ρ
  | [], [], [], _, _, _, _, _ => rfl
  | k :: ks, d :: ds, r :: rs, _, _, h, q, e => by
    unfold lookA
    rw [bd_eq (look_k h.1 q.1 e), bd_eq (lookA_k h.2 q.2 e)]; rfl
  | [], [], _ :: _, _, _, h, _, _ => h.elim
  | [], _ :: _, _, _, _, h, _, _ => h.elim
  | _ :: _, [], _, _, _, h, _, _ => h.elim
  | _ :: _, _ :: _, [], _, _, h, _, _ => h.elim
def frzEA : List Kd → List D → List Ms → List Ms
  | k :: ks, d :: ds, E => frzEA ks ds (frzE k d E)
  | _, _, E => E
theorem RdkA.frz {k' : Kd} {d' : D} {E : List Ms} (h : Rdk k' d' E) : ∀ {ks : List Kd} {ds : List D}, RdkA ks ds E → RdkA ks ds (frzE k' d' E)
  | [], [], _ => trivial
  | _ :: _, _ :: _, q => ⟨Rdk.frz q.1 h, RdkA.frz h q.2⟩
  | [], _ :: _, q => q.elim
  | _ :: _, [], q => q.elim
theorem frzA_k : ∀ {ks : List Kd} {ds : List D} {rs : List Rs} {E : List Ms} {ρ : List Sl}, KrA ks ds rs → RdkA ks ds E → Ec E ρ → ∃ ρ', frzA rs ρ = .ok ds ρ' ∧ Ec (frzEA ks ds E) ρ'
  | [], [], [], _, ρ, _, _, e => ⟨ρ, rfl, e⟩
  | k :: ks, d :: ds, r :: rs, _, _, h, q, e => by
    obtain ⟨ρ1, e1, e2⟩ := frz_k h.1 q.1 e
    obtain ⟨ρ2, e3, e4⟩ := frzA_k h.2 (RdkA.frz q.1 q.2) e2
    refine ⟨ρ2, ?_, e4⟩
    unfold frzA
    rw [bd_eq e1, bd_eq e3]; rfl
  | [], [], _ :: _, _, _, h, _, _ => h.elim
  | [], _ :: _, _, _, _, h, _, _ => h.elim
  | _ :: _, [], _, _, _, h, _, _ => h.elim
  | _ :: _, _ :: _, [], _, _, h, _, _ => h.elim
theorem rdT {p : Prop} (h : p := by repeat (first | exact True.intro | exact rfl | apply And.intro)) : p := h
section
variable {E E1 E2 E3 : List Ms} {m a b c : M Rs} {k ka kb kc : Kd} {d da db dc : D} {i j : Nat} {f : M (List Rs)} {ks : List Kd} {ds : List D}
theorem ev_C : Ev E (dC d) .val d E := ⟨trivial, fun ρ h => ⟨_, ρ, rfl, rfl, h⟩⟩
theorem ev_fz (h : E[i]? = some (.fz d)) : Ev E (dVar i) .val d E := ⟨trivial, fun ρ e => by
  obtain ⟨s, e1, e2⟩ := e.get h
  have e2 : s = .fz d := e2; subst e2
  exact ⟨_, ρ, by unfold dVar; rw [e1], rfl, e⟩⟩
theorem ev_rd (h : E[i]? = some (.rd d)) : Ev E (dVar i) (.nam i) d E := ⟨by show RdR E[i]? d; rw [h]; rfl, fun ρ e => by
  obtain ⟨s, e1, e2⟩ := e.get h
  rcases e2 with e2 | e2 | e2 <;> subst e2
  · exact ⟨_, ρ, by unfold dVar; rw [e1], .inl rfl, e⟩
  · exact ⟨_, ρ, by unfold dVar; rw [e1], .inr rfl, e⟩
  · exact ⟨_, ρ, by unfold dVar; rw [e1], .inr rfl, e⟩⟩
theorem ev_ow (h : E[i]? = some (.ow d)) : Ev E (dVar i) (.own i) d E := ⟨by show RdM E[i]? d; rw [h]; rfl, fun ρ e => by
  obtain ⟨s, e1, e2⟩ := e.get h
  have e2 : s = .ow d := e2; subst e2
  exact ⟨_, ρ, by unfold dVar; rw [e1], rfl, e⟩⟩
/-- for good or new: what is made of it -/
def Rk : Rs → Kd → D → Prop
  | .fz d, .val, e => e = d
  | .ow d, .new, e => e = d
  | _, _, _ => False
theorem Rk.kr {r : Rs} (h : Rk r k d) : Kr k d r ∧ ∀ E, Rdk k d E := by
  cases r with
  | fz e => cases k <;> first | exact h.elim | (have h : d = e := h; subst h; exact ⟨rfl, fun _ => trivial⟩)
  | ow e => cases k <;> first | exact h.elim | (have h : d = e := h; subst h; exact ⟨rfl, fun _ => trivial⟩)
  | nm _ => cases k <;> exact h.elim
theorem ev_op2 {g : G2} {r : Rs} (ha : Ev E a ka da E1) (hb : Ev E1 b kb db E2) (hg : g da db = some r) (hk : Rk r k d) (hr : Rdk ka da E2 := by repeat (first | exact True.intro | exact rfl | apply And.intro)) : Ev E (dOp2 g a b) k d E2 := ⟨hk.kr.2 _, fun ρ e => by
  obtain ⟨ra, ρ1, e1, q1, c1⟩ := ha.2 ρ e
  obtain ⟨rb, ρ2, e2, q2, c2⟩ := hb.2 ρ1 c1
  refine ⟨r, ρ2, ?_, hk.kr.1, c2⟩
  unfold dOp2
  rw [bd_eq e1, bd_eq e2, bd_eq (look_k q1 hr c2), bd_eq (look_k q2 hb.1 c2)]
  exact opt_eq hg⟩
theorem ev_cmp {g : D → D → Option Bool} {p : Bool} (ha : Ev E a ka da E1) (hb : Ev E1 b kb db E2) (hg : g da db = some p) (hr : Rdk ka da E2 := by repeat (first | exact True.intro | exact rfl | apply And.intro)) : Ev E (dOp2 (gB g) a b) .val (.bool p) E2 :=
  ev_op2 (r := .fz (.bool p)) ha hb (by unfold gB; rw [hg]; rfl) rfl hr
theorem tj_cmp {g : D → D → Option Bool} {p : Bool} (ha : Ev E a ka da E1) (hb : Ev E1 b kb db E2) (hg : g da db = some p) (hr : Rdk ka da E2 := by repeat (first | exact True.intro | exact rfl | apply And.intro)) : Tj E (dOp2T g a b) p E2 := fun ρ e => by
  obtain ⟨ra, ρ1, e1, q1, c1⟩ := ha.2 ρ e
  obtain ⟨rb, ρ2, e2, q2, c2⟩ := hb.2 ρ1 c1
  refine ⟨ρ2, ?_, c2⟩
  unfold dOp2T
  rw [bd_eq e1, bd_eq e2, bd_eq (look_k q1 hr c2), bd_eq (look_k q2 hb.1 c2)]
  exact opt_eq hg
theorem ea_nil : Ea E dNil [] [] E := fun ρ e => ⟨[], ρ, rfl, trivial, e⟩
theorem ea_cons (ha : Ev E a ka da E1) (hf : Ea E1 f ks ds E2) : Ea E (dCons a f) (ka :: ks) (da :: ds) E2 := fun ρ e => by
  obtain ⟨ra, ρ1, e1, q1, c1⟩ := ha.2 ρ e
  obtain ⟨rs, ρ2, e2, q2, c2⟩ := hf ρ1 c1
  refine ⟨ra :: rs, ρ2, ?_, ⟨q1, q2⟩, c2⟩
  unfold dCons
  rw [bd_eq e1, bd_eq e2]; rfl
theorem ev_tup (hf : Ea E f ks ds E1) (hr : RdkA ks ds E1 := by repeat (first | exact True.intro | exact rfl | apply And.intro)) (hl : ds.length ≤ 1000 := by first | decide | exact of_decide_eq_true rfl) : Ev E (dTup f) .val (.tuple ds) (frzEA ks ds E1) := ⟨trivial, fun ρ e => by
  obtain ⟨rs, ρ1, e1, q1, c1⟩ := hf ρ e
  obtain ⟨ρ2, e2, c2⟩ := frzA_k q1 hr c1
  refine ⟨_, ρ2, ?_, rfl, c2⟩
  unfold dTup
  rw [bd_eq e1, bd_eq e2, if_pos hl]; rfl⟩
theorem ev_lst (hf : Ea E f ks ds E1) (hr : RdkA ks ds E1 := by repeat (first | exact True.intro | exact rfl | apply And.intro)) (hl : ds.length ≤ 1000 := by first | decide | exact of_decide_eq_true rfl) : Ev E (dLst f) .new (.list ds) (frzEA ks ds E1) := ⟨trivial, fun ρ e => by
  obtain ⟨rs, ρ1, e1, q1, c1⟩ := hf ρ e
  obtain ⟨ρ2, e2, c2⟩ := frzA_k q1 hr c1
  refine ⟨_, ρ2, ?_, rfl, c2⟩
  unfold dLst
  rw [bd_eq e1, bd_eq e2, if_pos hl]; rfl⟩
theorem ev_B {g : List D → Option Rs} {r : Rs} (hf : Ea E f ks ds E1) (hg : g ds = some r) (hk : Rk r k d) (hr : RdkA ks ds E1 := by repeat (first | exact True.intro | exact rfl | apply And.intro)) : Ev E (dB g f) k d E1 := ⟨hk.kr.2 _, fun ρ e => by
  obtain ⟨rs, ρ1, e1, q1, c1⟩ := hf ρ e
  refine ⟨r, ρ1, ?_, hk.kr.1, c1⟩
  unfold dB
  rw [bd_eq e1, bd_eq (lookA_k q1 hr c1)]
  exact opt_eq hg⟩
theorem ev_B1 {g : List D → Option Rs} {r : Rs} (ha : Ev E a ka da E1) (hg : g [da] = some r) (hk : Rk r k d) : Ev E (dB g (dCons a dNil)) k d E1 := ev_B (ea_cons ha ea_nil) hg hk ⟨ha.1, trivial⟩
theorem isK_str {α : Type} {f : α → Str} {g : α → D} : ∀ {l : List α}, isK (l.map fun p => (PyData.str (f p), g p)) = true
  | [] => rfl
  | _ :: _ => rfl
theorem isK_int {α : Type} {f : α → Int} {g : α → D} : ∀ {l : List α}, isK (l.map fun p => (PyData.int (f p), g p)) = true
  | [] => rfl
  | _ :: _ => rfl
theorem ev_isi {T : Ty} (ha : Ev E a ka da E1) (ho : okTy da = true := by first | rfl | exact isK_str | exact isK_int) : Ev E (dIsi T a) .val (.bool (isT T da)) E1 := ⟨trivial, fun ρ e => by
  obtain ⟨ra, ρ1, e1, q1, c1⟩ := ha.2 ρ e
  refine ⟨_, ρ1, ?_, rfl, c1⟩
  unfold dIsi
  rw [bd_eq e1, bd_eq (look_k q1 ha.1 c1)]
  exact opt_eq (if_pos ho)⟩
/-- known for less -/
theorem Ev.le (ha : Ev E m k d E1) (hl : Le E1 E2) (hr : Rdk k d E2) : Ev E m k d E2 := ⟨hr, fun ρ e => by
  obtain ⟨r, ρ1, e1, q1, c1⟩ := ha.2 ρ e
  exact ⟨r, ρ1, e1, q1, hl.ec c1⟩⟩
theorem Tj.le {t : M Bool} {p : Bool} (ha : Tj E t p E1) (hl : Le E1 E2) : Tj E t p E2 := fun ρ e => by
  obtain ⟨ρ1, e1, c1⟩ := ha ρ e
  exact ⟨ρ1, e1, hl.ec c1⟩
theorem Ev.eq {d' : D} (ha : Ev E m k d E1) (h : d = d') : Ev E m k d' E1 := h ▸ ha
/-! tests -/
theorem tj_tru {p : Bool} (ha : Ev E a ka da E1) (h : tru da = some p) : Tj E (dTru a) p E1 := fun ρ e => by
  obtain ⟨ra, ρ1, e1, q1, c1⟩ := ha.2 ρ e
  refine ⟨ρ1, ?_, c1⟩
  unfold dTru
  rw [bd_eq e1, bd_eq (look_k q1 ha.1 c1)]
  exact opt_eq h
theorem tj_b {p : Bool} (ha : Ev E a ka (.bool p) E1) : Tj E (dTru a) p E1 := tj_tru ha rfl
theorem tj_not {t : M Bool} {p : Bool} (h : Tj E t p E1) : Tj E (dNot t) (!p) E1 := fun ρ e => by
  obtain ⟨ρ1, e1, c1⟩ := h ρ e
  refine ⟨ρ1, ?_, c1⟩
  unfold dNot
  rw [bd_eq e1]; rfl
theorem tj_and {t u : M Bool} {p q : Bool} (h : Tj E t p E1) (h2 : p = true → Tj E1 u q E1) : Tj E (dAnd t u) (p && q) E1 := fun ρ e => by
  obtain ⟨ρ1, e1, c1⟩ := h ρ e
  unfold dAnd
  rw [bd_eq e1]
  cases p with
  | false => exact ⟨ρ1, rfl, c1⟩
  | true =>
    obtain ⟨ρ2, e2, c2⟩ := h2 rfl ρ1 c1
    exact ⟨ρ2, by simpa using e2, c2⟩
theorem tj_or {t u : M Bool} {p q : Bool} (h : Tj E t p E1) (h2 : p = false → Tj E1 u q E1) : Tj E (dOr t u) (p || q) E1 := fun ρ e => by
  obtain ⟨ρ1, e1, c1⟩ := h ρ e
  unfold dOr
  rw [bd_eq e1]
  cases p with
  | true => exact ⟨ρ1, rfl, c1⟩
  | false =>
    obtain ⟨ρ2, e2, c2⟩ := h2 rfl ρ1 c1
    exact ⟨ρ2, by simpa using e2, c2⟩
theorem ev_notb {p : Bool} (ha : Ev E a ka (.bool p) E1) : Ev E (dNotV a) .val (.bool (!p)) E1 := ⟨trivial, fun ρ e => by
  obtain ⟨ra, ρ1, e1, q1, c1⟩ := ha.2 ρ e
  refine ⟨_, ρ1, ?_, rfl, c1⟩
  unfold dNotV
  rw [bd_eq e1, bd_eq (look_k q1 ha.1 c1)]; rfl⟩
theorem ev_andb {p q : Bool} (ha : Ev E a ka (.bool p) E1) (hb : p = true → Ev E1 b .val (.bool q) E1) (hk : Kr ka (.bool p) (.fz (.bool p)) := by exact rfl) (hn : ka = .val := by exact rfl) : Ev E (dAndV a b) .val (.bool (p && q)) E1 := ⟨trivial, fun ρ e => by
  subst hn
  obtain ⟨ra, ρ1, e1, q1, c1⟩ := ha.2 ρ e
  have q1 : ra = .fz (.bool p) := q1; subst q1
  unfold dAndV
  rw [bd_eq e1]
  cases p with
  | false => exact ⟨_, ρ1, rfl, rfl, c1⟩
  | true =>
    obtain ⟨rb, ρ2, e2, q2, c2⟩ := (hb rfl).2 ρ1 c1
    refine ⟨rb, ρ2, ?_, by simpa using q2, c2⟩
    rw [← e2]; rfl⟩
theorem ev_orb {p q : Bool} (ha : Ev E a ka (.bool p) E1) (hb : p = false → Ev E1 b .val (.bool q) E1) (hn : ka = .val := by exact rfl) : Ev E (dOrV a b) .val (.bool (p || q)) E1 := ⟨trivial, fun ρ e => by
  subst hn
  obtain ⟨ra, ρ1, e1, q1, c1⟩ := ha.2 ρ e
  have q1 : ra = .fz (.bool p) := q1; subst q1
  unfold dOrV
  rw [bd_eq e1]
  cases p with
  | true => exact ⟨_, ρ1, rfl, rfl, c1⟩
  | false =>
    obtain ⟨rb, ρ2, e2, q2, c2⟩ := (hb rfl).2 ρ1 c1
    refine ⟨rb, ρ2, ?_, by simpa using q2, c2⟩
    rw [← e2]; rfl⟩
end
end TL
namespace TL
open PySem L2 DL
/-- a value that is told once -/
def Let {α β : Type} (x : α) (o : α → β) : β := o x
section
variable {E E1 E2 E3 : List Ms} {m a b c : M Rs} {k ka kb kc : Kd} {d da db dc : D} {i j : Nat} {f : M (List Rs)} {ks : List Kd} {ds : List D} {τ : Type} {P : τ → SR → Prop} {rest s s1 s2 body : DS} {v x y : τ}
def Sg (E : List Ms) (s : DS) (P : τ → SR → Prop) (v : τ) : Prop := ∀ ρ, Ec E ρ → P v (s ρ)
theorem seq_nx {ρ ρ1 : List Sl} (h : s ρ = .nx ρ1) : dSeq s rest ρ = rest ρ1 := by unfold dSeq; rw [h]
theorem sg_last (h : Sg E (dSeq s dPass) P v) : Sg E s P v := fun ρ e => by
  have h := h ρ e
  have : dSeq s dPass ρ = s ρ := by unfold dSeq dPass; cases s ρ <;> rfl
  rwa [this] at h
theorem sg_skip (h : Sg E rest P v) : Sg E (dSeq dPass rest) P v := fun ρ e => by
  have h := h ρ e
  exact h
/-- the slot behind a store -/
def setE (i : Nat) : Kd → D → List Ms → List Ms
  | .val, d, E => E.set i (.fz d)
  | .new, d, E => E.set i (.ow d)
  | .vn, d, E => E.set i (.rd d)
  | .nam _, d, E => E.set i (.fz d)
  | .own j, d, E => (E.set j (.fz d)).set i (.fz d)
theorem setR_k {r : Rs} {ρ : List Sl} (h : Kr k d r) (q : Rdk k d E) (e : Ec E ρ) (hi : i < E.length) : ∃ ρ', setR i r ρ = some ρ' ∧ Ec (setE i k d E) ρ' := by
  have hi' : i < ρ.length := by rw [← e.len]; exact hi
  have go : ∀ j ρ1, r = .nm j → frz (.nm j) ρ = .ok d ρ1 → setR i r ρ = some (ρ1.set i (.fz d)) := fun j ρ1 z q => by
    subst z
    unfold setR
    rw [if_pos hi']
    simp only [q]
  cases k with
  | val => have h : r = .fz d := h; subst h; exact ⟨_, setR_fz hi', e.set i rfl⟩
  | new => have h : r = .ow d := h; subst h; exact ⟨_, setR_ow hi', e.set i rfl⟩
  | vn => rcases h with h | h <;> subst h
          · exact ⟨_, setR_fz hi', e.set i (.inl rfl)⟩
          · exact ⟨_, setR_ow hi', e.set i (.inr (.inl rfl))⟩
  | nam j =>
    rcases h with h | h
    · subst h; exact ⟨_, setR_fz hi', e.set i rfl⟩
    · obtain ⟨ρ1, e1, e2⟩ := frz_k (k := .nam j) (r := .nm j) (d := d) (.inr rfl) q e
      exact ⟨_, go j ρ1 h e1, e2.set i rfl⟩
  | own j =>
    have h : r = .nm j := h
    obtain ⟨ρ1, e1, e2⟩ := frz_k (k := .own j) (r := .nm j) (d := d) rfl q e
    exact ⟨_, go j ρ1 h e1, e2.set i rfl⟩
theorem sg_set (ha : Ev E a k d E1) (h : Sg (setE i k d E1) rest P v) (hi : i < E1.length := by first | decide | exact of_decide_eq_true rfl) : Sg E (dSeq (dSet i a) rest) P v := fun ρ e => by
  obtain ⟨r, ρ1, e1, q1, c1⟩ := ha.2 ρ e
  obtain ⟨ρ2, e2, c2⟩ := setR_k q1 ha.1 c1 hi
  rw [seq_nx (ρ1 := ρ2) (by unfold dSet; simp only [e1, e2])]
  exact h ρ2 c2
theorem sg_drop (ha : Ev E a k d E1) (h : Sg E1 rest P v) : Sg E (dSeq (dDrop a) rest) P v := fun ρ e => by
  obtain ⟨r, ρ1, e1, q1, c1⟩ := ha.2 ρ e
  rw [seq_nx (ρ1 := ρ1) (by unfold dDrop; simp only [e1])]
  exact h ρ1 c1
theorem sg_if {t : M Bool} {p : Bool} (ht : Tj E t p E1) (h1 : p = true → Sg E1 (dSeq s1 rest) P x) (h2 : p = false → Sg E1 (dSeq s2 rest) P y) : Sg E (dSeq (dIf t s1 s2) rest) P (if p = true then x else y) := fun ρ e => by
  obtain ⟨ρ1, e1, c1⟩ := ht ρ e
  cases p with
  | true =>
    have : dSeq (dIf t s1 s2) rest ρ = dSeq s1 rest ρ1 := by unfold dSeq dIf; rw [e1]
    rw [this]; exact h1 rfl ρ1 c1
  | false =>
    have : dSeq (dIf t s1 s2) rest ρ = dSeq s2 rest ρ1 := by unfold dSeq dIf; rw [e1]
    rw [this]; exact h2 rfl ρ1 c1
/-- known which way -/
theorem sg_ifF {t : M Bool} {p : Bool} (ht : Tj E t p E1) (hp : p = false) (h2 : Sg E1 (dSeq s2 rest) P y) : Sg E (dSeq (dIf t s1 s2) rest) P y := fun ρ e => by
  obtain ⟨ρ1, e1, c1⟩ := ht ρ e
  subst hp
  have : dSeq (dIf t s1 s2) rest ρ = dSeq s2 rest ρ1 := by unfold dSeq dIf; rw [e1]
  rw [this]; exact h2 ρ1 c1
/-- both ways come to one state -/
def Pj {σ : Type} (Eσ : σ → List Ms) : σ → SR → Prop := fun s o => match o with
  | .nx ρ => Ec (Eσ s) ρ
  | _ => False
theorem sg_pass {σ : Type} {Eσ : σ → List Ms} {w : σ} (h : Le E (Eσ w)) : Sg E dPass (Pj Eσ) w := fun ρ e => h.ec e
theorem sg_join {σ : Type} {t : M Bool} {p : Bool} (Eσ : σ → List Ms) {w z : σ} {o : σ → τ} (ht : Tj E t p E1) (h1 : p = true → Sg E1 s1 (Pj Eσ) w) (h2 : p = false → Sg E1 s2 (Pj Eσ) z)
    (h : ∀ q, q = (if p = true then w else z) → Sg (Eσ q) rest P (o q)) : Sg E (dSeq (dIf t s1 s2) rest) P (Let (if p = true then w else z) o) := fun ρ e => by
  obtain ⟨ρ1, e1, c1⟩ := ht ρ e
  have go : ∀ s (w : σ), Sg E1 s (Pj Eσ) w → (if p = true then s1 ρ1 else s2 ρ1) = s ρ1 → Sg (Eσ w) rest P (o w) → P (o w) (dSeq (dIf t s1 s2) rest ρ) := fun s w q ez hr => by
    have q := q ρ1 c1
    have hs : dIf t s1 s2 ρ = s ρ1 := by unfold dIf; rw [e1]; cases p <;> simpa using ez
    cases es : s ρ1 with
    | nx ρ2 =>
      rw [es] at q
      rw [seq_nx (ρ1 := ρ2) (hs.trans es)]
      exact hr ρ2 q
    | _ => rw [es] at q; exact q.elim
  show P (o (if p = true then w else z)) _
  have hh := h _ rfl
  cases p with
  | true => exact go s1 w (h1 rfl) rfl hh
  | false => exact go s2 z (h2 rfl) rfl hh
/-! ### the end of a def -/
def Rdb (ρ : List Sl) (i : Nat) (d : D) : Prop := ρ[i]? = some (.fz d) ∨ ρ[i]? = some (.ow d) ∨ ρ[i]? = some (.lk d)
def Rkk (n : Nat) (outs : List Ms) : Kd → D → Rs → List Sl → Prop
  | .val, d, r, ρ => r = .fz d ∨ ∃ i, r = .nm i ∧ (ρ[i]? = some (.fz d) ∨ (i < n ∧ RdR outs[i]? d ∧ Rdb ρ i d))
  | .new, d, r, ρ => r = .ow d ∨ ∃ i, r = .nm i ∧ n ≤ i ∧ ρ[i]? = some (.ow d)
  | .vn, d, r, ρ => r = .fz d ∨ r = .ow d ∨ ∃ i, r = .nm i ∧ n ≤ i ∧ n ≤ i ∧ Rdb ρ i d
  | _, _, _, _ => False
def Rt {α : Type} (n : Nat) (enc : α → D) (k : Kd) (outs : α → List Ms) (v : α) (r : Rs) (ρ : List Sl) : Prop := Rkk n (outs v) k (enc v) r ρ ∧ Ec (outs v) ρ
def Pr {α : Type} (n : Nat) (enc : α → D) (k : Kd) (outs : α → List Ms) : α → SR → Prop := fun v o => match o with
  | .rt r ρ => Rt n enc k outs v r ρ
  | .nx ρ => k = .val ∧ enc v = .none ∧ Ec (outs v) ρ
  | _ => False
/-- how a def's result may come from an expression's -/
def RetOk (n : Nat) (outs : List Ms) (E : List Ms) (d : D) : Kd → Kd → Prop
  | .val, .val => True
  | .new, .new => True
  | .val, .vn => True
  | .new, .vn => True
  | .vn, .vn => True
  | .nam i, .val => i < n ∧ RdR outs[i]? d
  | .own i, .val => i < n ∧ RdR outs[i]? d
  | .own i, .new => n ≤ i ∧ E[i]? = some (.ow d)
  | .nam i, .vn => n ≤ i
  | .own i, .vn => n ≤ i
  | _, _ => False
theorem rt_ok {n : Nat} {outs : List Ms} {ke : Kd} {r : Rs} {ρ : List Sl} (h : Kr ke d r) (q : Rdk ke d E) (e : Ec E ρ) (ho : RetOk n outs E d ke k) : Rkk n outs k d r ρ := by
  cases ke with
  | val => have h : r = .fz d := h; cases k <;> first | exact .inl h | exact ho.elim
  | new => have h : r = .ow d := h; cases k <;> first | exact .inl h | exact .inr (.inl h) | exact ho.elim
  | vn => cases k <;> first | exact ho.elim | exact h.elim .inl fun z => .inr (.inl z)
  | nam i =>
    have rd := e.rd (RdR.m q)
    cases k with
    | val => rcases h with h | h
             · exact .inl h
             · exact .inr ⟨i, h, .inr ⟨ho.1, ho.2, rd⟩⟩
    | vn => rcases h with h | h
            · exact .inl h
            · exact .inr (.inr ⟨i, h, ho, ho, rd⟩)
    | _ => exact ho.elim
  | own i =>
    have h : r = .nm i := h
    have rd := e.rd q
    cases k with
    | val => exact .inr ⟨i, h, .inr ⟨ho.1, ho.2, rd⟩⟩
    | vn => exact .inr (.inr ⟨i, h, ho, ho, rd⟩)
    | new =>
      obtain ⟨s, e1, e2⟩ := e.get ho.2
      have e2 : s = .ow d := e2; subst e2
      exact .inr ⟨i, h, ho.1, e1⟩
    | _ => exact ho.elim
theorem roT {p : Prop} (h : p := by first | exact True.intro | exact ⟨by decide, rfl⟩ | decide | exact Nat.le_of_ble_eq_true rfl) : p := h
theorem sg_ret {α : Type} {n : Nat} {enc : α → D} {outs : α → List Ms} {v : α} {ke : Kd} (ha : Ev E a ke (enc v) E1) (hl : Le E1 (outs v)) (ho : RetOk n (outs v) E1 (enc v) ke k) : Sg E (dSeq (dRet a) rest) (Pr n enc k outs) v := fun ρ e => by
  obtain ⟨r, ρ1, e1, q1, c1⟩ := ha.2 ρ e
  have : dSeq (dRet a) rest ρ = .rt r ρ1 := by unfold dSeq dRet; rw [e1]
  rw [this]
  exact ⟨rt_ok q1 ha.1 c1 ho, hl.ec c1⟩
def outM : List Bool → List Ms → List Ms
  | true :: bs, m :: E => m :: outM bs E
  | false :: bs, _ :: E => .any :: outM bs E
  | _, _ => []
theorem outM_ec : ∀ {ms : List Bool} {E : List Ms} {ρ : List Sl}, Ec E ρ → Ec (outM ms E) (outP ms ρ)
  | [], _, _, _ => by unfold outM outP; trivial
  | true :: _, [], [], _ => trivial
  | false :: _, [], [], _ => trivial
  | true :: _, _ :: _, _ :: _, h => ⟨h.1, outM_ec h.2⟩
  | false :: _, _ :: _, _ :: _, h => ⟨trivial, outM_ec h.2⟩
  | _ :: _, [], _ :: _, h => h.elim
  | _ :: _, _ :: _, [], h => h.elim
theorem ev_run {α : Type} {n N : Nat} {enc : α → D} {outs : α → List Ms} {v : α} {ms : List Bool} {ins : List Ms} (h : Sg (ins ++ List.replicate (N - ins.length) .any) body (Pr n enc k outs) v) (hk : ∀ d E, Rdk k d E := by intro _ _; exact True.intro) (hm : ms.length = n := by rfl) :
    Ev ins (runDef ms N body) k (enc v) (outM ms (outs v)) := ⟨hk _ _, fun ρ e => by
  have h := h (ρ ++ List.replicate (N - ρ.length) .em) (by rw [e.len]; exact e.app (Ec.anys _))
  unfold runDef
  generalize body (ρ ++ List.replicate (N - ρ.length) .em) = o at h
  cases o with
  | nx ρ1 => obtain ⟨e1, e2, e3⟩ := h; subst e1; rw [e2]; exact ⟨_, _, rfl, rfl, outM_ec e3⟩
  | rt r ρ1 =>
    obtain ⟨h1, h2⟩ := h
    have setd : ∀ i, RdR (outs v)[i]? (enc v) → Ec (outs v) (ρ1.set i (.fz (enc v))) := fun i q => by
      cases em : (outs v)[i]? with
      | none => rw [em] at q; exact q.elim
      | some m =>
        rw [em] at q
        cases m with
        | fz d' => have q : d' = enc v := q; subst q; exact h2.setR em rfl
        | rd d' => have q : d' = enc v := q; rw [← q]; exact h2.setR em (.inl rfl)
        | _ => exact q.elim
    cases k with
    | val =>
      rcases h1 with h1 | ⟨i, h1, q⟩
      · subst h1; exact ⟨_, _, rfl, rfl, outM_ec h2⟩
      · subst h1
        rcases q with q | ⟨q1, q2, q⟩
        · simp only [q]; exact ⟨_, _, rfl, rfl, outM_ec h2⟩
        · rcases q with q | q | q <;> simp only [q]
          · exact ⟨_, _, rfl, rfl, outM_ec h2⟩
          · rw [if_neg (by omega)]; exact ⟨_, _, rfl, rfl, outM_ec (setd i q2)⟩
          · exact ⟨_, _, rfl, rfl, outM_ec (setd i q2)⟩
    | new =>
      rcases h1 with h1 | ⟨i, h1, q1, q⟩
      · subst h1; exact ⟨_, _, rfl, rfl, outM_ec h2⟩
      · subst h1; simp only [q]; rw [if_pos (by omega)]; exact ⟨_, _, rfl, rfl, outM_ec h2⟩
    | vn =>
      have setl : ∀ i, n ≤ i → Ec (outM ms (outs v)) (outP ms (ρ1.set i (.fz (enc v)))) := fun i hi => by
        have key : ∀ {ms : List Bool} {ρ : List Sl} {i : Nat} {s : Sl}, ms.length ≤ i → outP ms (ρ.set i s) = outP ms ρ := by
          intro ms
          induction ms with
          | nil => intro ρ i s _; unfold outP; rfl
          | cons b bs ih =>
            intro ρ i s hi
            cases ρ with
            | nil => rfl
            | cons s0 ρ =>
              cases i with
              | zero => simp at hi
              | succ i => cases b <;> simp only [List.set_cons_succ, outP] <;> rw [ih (by simpa using hi)]
        rw [key (by omega)]; exact outM_ec h2
      rcases h1 with h1 | h1 | ⟨i, h1, q1, _, q⟩
      · subst h1; exact ⟨_, _, rfl, .inl rfl, outM_ec h2⟩
      · subst h1; exact ⟨_, _, rfl, .inr rfl, outM_ec h2⟩
      · subst h1
        rcases q with q | q | q <;> simp only [q]
        · exact ⟨_, _, rfl, .inl rfl, outM_ec h2⟩
        · rw [if_pos (by omega)]; exact ⟨_, _, rfl, .inr rfl, outM_ec h2⟩
        · exact ⟨_, _, rfl, .inl rfl, setl i q1⟩
    | nam i => exact h1.elim
    | own i => exact h1.elim
  | _ => exact h.elim⟩
end
end TL
namespace TL
open PySem L2 DL
inductive Lki where
  | no | sure (i : Nat) | may (i : Nat)
def LkOk : Lki → Option Nat → Prop
  | .no, l => l = none
  | .sure i, l => l = some i
  | .may i, l => l = none ∨ l = some i
def unlE : Lki → List Ms → List Ms
  | .no, E => E
  | .sure i, E => match E[i]? with
    | some (.lk d) => E.set i (.ow d)
    | _ => E
  | .may i, E => match E[i]? with
    | some (.lk d) => E.set i (.rd d)
    | _ => E
section
variable {E E1 E2 E3 : List Ms} {m a b c e : M Rs} {k ka kb kc : Kd} {d da db dc : D} {i j : Nat} {f : M (List Rs)} {ks : List Kd} {ds : List D} {τ : Type} {P : τ → SR → Prop} {rest s s1 s2 body : DS} {v x y : τ} {li : Lki} {l : Option Nat} {ρ ρ1 ρ2 : List Sl}
theorem Ec.pt (hl : E.length = ρ.length) (h : ∀ (i : Nat) (m : Ms) (s : Sl), E[i]? = some m → ρ[i]? = some s → Mo m s) : Ec E ρ := by
  induction E generalizing ρ with
  | nil => cases ρ with
    | nil => trivial
    | cons _ _ => simp at hl
  | cons m E ih => cases ρ with
    | nil => simp at hl
    | cons s ρ => exact ⟨h 0 m s (by simp) (by simp), ih (by simpa using hl) fun i m' s' e1 e2 => h (i + 1) m' s' (by simpa using e1) (by simpa using e2)⟩
theorem Ec.at (h : Ec E ρ) {m : Ms} {s : Sl} (e : E[i]? = some m) (e2 : ρ[i]? = some s) : Mo m s := by
  obtain ⟨s', e3, q⟩ := h.get e
  rw [e2] at e3; cases e3; exact q
theorem unl_k (hl : LkOk li l) (h : Ec E ρ) : Ec (unlE li E) (unl l ρ) := by
  have key : ∀ i, Ec (unlE (.sure i) E) (unl (some i) ρ) ∧ Ec (unlE (.may i) E) (unl (some i) ρ) ∧ Ec (unlE (.may i) E) ρ := fun i => by
    unfold unlE unl
    simp only
    cases em : E[i]? with
    | none =>
      have hn : ρ[i]? = none := by rw [List.getElem?_eq_none_iff] at em ⊢; rw [← h.len]; exact em
      simp only [hn]; exact ⟨h, h, h⟩
    | some m =>
      obtain ⟨s, e1, e2⟩ := h.get em
      simp only [e1]
      cases m with
      | any => cases s <;> first | exact ⟨h, h, h⟩ | exact ⟨h.setR em trivial, h.setR em trivial, h⟩
      | fz d => have e2 : s = .fz d := e2; subst e2; exact ⟨h, h, h⟩
      | ow d => have e2 : s = .ow d := e2; subst e2; exact ⟨h, h, h⟩
      | lk d =>
        have e2 : s = .lk d := e2; subst e2
        refine ⟨h.set i rfl, h.set i (.inr (.inl rfl)), ?_⟩
        have := h.set (m := .rd d) (s := .lk d) i (.inr (.inr rfl))
        rwa [set_self' e1] at this
      | rd d => rcases e2 with e2 | e2 | e2 <;> subst e2 <;> first | exact ⟨h, h, h⟩ | exact ⟨h.setR em (.inr (.inl rfl)), h.setR em (.inr (.inl rfl)), h⟩
  cases li with
  | no => have hl : l = none := hl; subst hl; exact h
  | sure i => have hl : l = some i := hl; subst hl; exact (key i).1
  | may i => rcases hl with hl | hl <;> subst hl
             · exact (key i).2.2
             · exact (key i).2.1
/-! ### what is walked -/
def Ew (E : List Ms) (w : M Wk) (ds : List D) (li : Lki) (E' : List Ms) : Prop := ∀ ρ, Ec E ρ → ∃ l ρ1, w ρ = .ok (ds, l) ρ1 ∧ LkOk li l ∧ Ec E' ρ1
theorem wkOf_eq (h : seqItems d = some ds) : wkOf l d ρ = .ok (ds, l) ρ := by unfold wkOf opt; rw [h]; rfl
theorem ew_val (ha : Ev E e .val d E1) (h : seqItems d = some ds) : Ew E (dWk e) ds .no E1 := fun ρ q => by
  obtain ⟨r, ρ1, e1, q1, c1⟩ := ha.2 ρ q
  have q1 : r = .fz d := q1; subst q1
  exact ⟨none, ρ1, by unfold dWk; rw [bd_eq e1]; exact wkOf_eq h, rfl, c1⟩
theorem ew_new (ha : Ev E e .new d E1) (h : seqItems d = some ds) : Ew E (dWk e) ds .no E1 := fun ρ q => by
  obtain ⟨r, ρ1, e1, q1, c1⟩ := ha.2 ρ q
  have q1 : r = .ow d := q1; subst q1
  exact ⟨none, ρ1, by unfold dWk; rw [bd_eq e1]; exact wkOf_eq h, rfl, c1⟩
theorem ew_ow (ha : Ev E e (.own i) d E1) (hi : E1[i]? = some (.ow d)) (h : seqItems d = some ds) : Ew E (dWk e) ds (.sure i) (E1.set i (.lk d)) := fun ρ q => by
  obtain ⟨r, ρ1, e1, q1, c1⟩ := ha.2 ρ q
  have q1 : r = .nm i := q1; subst q1
  obtain ⟨s, z, z2⟩ := c1.get hi
  have z2 : s = .ow d := z2; subst z2
  exact ⟨some i, ρ1.set i (.lk d), by unfold dWk; rw [bd_eq e1]; simp only [z]; exact wkOf_eq h, rfl, c1.set i rfl⟩
theorem ew_rng1 {n : Int} (ha : Ev E e k (.int n) E1) (h1 : -4611686018427387904 ≤ n) (h2 : n < 4611686018427387904) : Ew E (dRng1 (dCons e dNil)) ((List.range n.toNat).map fun k => .int (k : Nat)) .no E1 := fun ρ q => by
  obtain ⟨rs, ρ1, e1, q1, c1⟩ := ea_cons ha ea_nil ρ q
  refine ⟨none, ρ1, ?_, rfl, c1⟩
  unfold dRng1
  rw [bd_eq e1, bd_eq (lookA_k q1 ⟨ha.1, trivial⟩ c1)]
  exact opt_eq (rng1_ok h1 h2)
/-! ### targets -/
def Tg (g : DG) (d : D) (E E' : List Ms) : Prop := ∀ ρ, Ec E ρ → ∃ ρ', g d ρ = some ρ' ∧ Ec E' ρ'
def TgA (g : DGs) (ds : List D) (E E' : List Ms) : Prop := ∀ ρ, Ec E ρ → ∃ ρ', g ds ρ = some ρ' ∧ Ec E' ρ'
theorem tg_n (hi : i < E.length := by first | decide | exact of_decide_eq_true rfl) : Tg (gN i) d E (E.set i (.fz d)) := fun ρ q => ⟨_, gN_ok (by rw [← q.len]; exact hi), q.set i rfl⟩
theorem tg_nil : TgA gsN [] E E := fun ρ q => ⟨ρ, rfl, q⟩
theorem tg_cons {g : DG} {gs : DGs} (h : Tg g d E E1) (h2 : TgA gs ds E1 E2) : TgA (gsC g gs) (d :: ds) E E2 := fun ρ q => by
  obtain ⟨ρ1, e1, c1⟩ := h ρ q
  obtain ⟨ρ2, e2, c2⟩ := h2 ρ1 c1
  exact ⟨ρ2, by unfold gsC; simp only [e1, e2], c2⟩
theorem tg_t {n : Nat} {gs : DGs} (h : TgA gs ds E E1) (hn : ds.length = n := by rfl) : Tg (gT n gs) (.tuple ds) E E1 := fun ρ q => by
  obtain ⟨ρ1, e1, c1⟩ := h ρ q
  exact ⟨ρ1, by rw [gT_ok hn]; exact e1, c1⟩
theorem sg_asg {g : DG} (ha : Ev E a k d E1) (hg : Tg g d (frzE k d E1) E2) (h : Sg E2 rest P v) : Sg E (dSeq (dAsg g a) rest) P v := fun ρ q => by
  obtain ⟨r, ρ1, e1, q1, c1⟩ := ha.2 ρ q
  obtain ⟨ρ2, e2, c2⟩ := frz_k q1 ha.1 c1
  obtain ⟨ρ3, e3, c3⟩ := hg ρ2 c2
  rw [seq_nx (ρ1 := ρ3) (by unfold dAsg; rw [bd_eq e1]; simp only [e2, e3])]
  exact h ρ3 c3
/-! ### for -/
def Pn {σ : Type} (Eσ : σ → List Ms) : σ → SR → Prop := fun s o => match o with
  | .nx ρ => Ec (Eσ s) ρ
  | .ct ρ => Ec (Eσ s) ρ
  | _ => False
theorem sg_passN {σ : Type} {Eσ : σ → List Ms} {w : σ} (h : Le E (Eσ w)) : Sg E dPass (Pn Eσ) w := fun ρ e => h.ec e
theorem for_pure {α σ : Type} {g : DG} {enc : α → D} {Eσ : σ → List Ms} {step : σ → α → σ} {I : Nat → σ → Prop} {xs : List α}
    (hb : ∀ k x s, xs[k]? = some x → I k s → ∃ E2, Tg g (enc x) (Eσ s) E2 ∧ Sg E2 body (Pn Eσ) (step s x)) (hi : ∀ k x s, xs[k]? = some x → I k s → I (k + 1) (step s x)) :
    ∀ (ys : List α) (k : Nat) (s : σ) (ρ : List Sl), xs.drop k = ys → I k s → Ec (Eσ s) ρ → ∃ ρ', forGo g body (ys.map enc) ρ = .nx ρ' ∧ Ec (Eσ (ys.foldl step s)) ρ' ∧ I (k + ys.length) (ys.foldl step s)
  | [], k, s, ρ, _, hI, e => ⟨ρ, rfl, e, hI⟩
  | y :: ys, k, s, ρ, hd, hI, e => by
    have hx : xs[k]? = some y := by
      have := congrArg (fun l => l[0]?) hd
      simpa using this
    have hd' : xs.drop (k + 1) = ys := by
      have := congrArg (List.drop 1) hd
      simpa using this
    obtain ⟨E2, h1, h2⟩ := hb k y s hx hI
    obtain ⟨ρ1, e1, c1⟩ := h1 ρ e
    have q := h2 ρ1 c1
    have fin : ∀ ρ2, Ec (Eσ (step s y)) ρ2 → ∃ ρ', forGo g body (ys.map enc) ρ2 = .nx ρ' ∧ Ec (Eσ ((y :: ys).foldl step s)) ρ' ∧ I (k + (y :: ys).length) ((y :: ys).foldl step s) := fun ρ2 c2 => by
      obtain ⟨ρ3, e3, c3, i3⟩ := for_pure hb hi ys (k + 1) (step s y) ρ2 hd' (hi k y s hx hI) c2
      exact ⟨ρ3, e3, c3, by rw [List.length_cons, show k + (ys.length + 1) = k + 1 + ys.length by omega]; exact i3⟩
    rw [List.map_cons]
    unfold forGo
    simp only [e1]
    cases eb : body ρ1 with
    | nx ρ2 => rw [eb] at q; exact fin ρ2 q
    | ct ρ2 => rw [eb] at q; exact fin ρ2 q
    | _ => rw [eb] at q; exact q.elim
theorem sg_for {α σ : Type} {w : M Wk} {g : DG} (enc : α → D) {xs : List α} (Eσ : σ → List Ms) {s0 : σ} {step : σ → α → σ} (I : Nat → σ → Prop) {o : σ → τ}
    (hw : Ew E w (xs.map enc) li E1) (h0 : Le E1 (Eσ s0)) (i0 : I 0 s0)
    (hb : ∀ k x s, xs[k]? = some x → I k s → ∃ E2, Tg g (enc x) (Eσ s) E2 ∧ Sg E2 body (Pn Eσ) (step s x)) (hi : ∀ k x s, xs[k]? = some x → I k s → I (k + 1) (step s x))
    (hr : ∀ s, s = xs.foldl step s0 → I xs.length s → Sg (unlE li (Eσ s)) rest P (o s)) : Sg E (dSeq (dFor w g body) rest) P (Let (xs.foldl step s0) o) := fun ρ e => by
  obtain ⟨l, ρ1, e1, hl, c1⟩ := hw ρ e
  obtain ⟨ρ2, e2, c2, i2⟩ := for_pure hb hi xs 0 s0 ρ1 rfl i0 (h0.ec c1)
  rw [seq_nx (ρ1 := unl l ρ2) (by unfold dFor; rw [e1]; simp only [e2]; rfl)]
  exact hr _ rfl (by simpa using i2) _ (unl_k hl c2)
inductive Ou (ρ σ : Type) where
  | rt (v : ρ) | nx (s : σ) | bk (s : σ)
def foldO {ρ σ α : Type} (f : σ → α → Ou ρ σ) : List α → σ → Ou ρ σ
  | [], s => .nx s
  | x :: xs, s => match f s x with
    | .rt v => .rt v
    | .bk s => .bk s
    | .nx s => foldO f xs s
def seqO {ρ σ τ : Type} (u : Ou ρ σ) (inj : ρ → τ) (o : σ → τ) : τ := match u with
  | .rt v => inj v
  | .nx s => o s
  | .bk s => o s
def Po {γ σ : Type} (R : γ → Rs → List Sl → Prop) (Eσ : σ → List Ms) : Ou γ σ → SR → Prop
  | .rt v, .rt r ρ => R v r ρ
  | .nx s, .nx ρ => Ec (Eσ s) ρ
  | .nx s, .ct ρ => Ec (Eσ s) ρ
  | .bk s, .bk ρ => Ec (Eσ s) ρ
  | _, _ => False
theorem sg_passO {γ σ : Type} {R : γ → Rs → List Sl → Prop} {Eσ : σ → List Ms} {w : σ} (h : Le E (Eσ w)) : Sg E dPass (Po R Eσ) (.nx w) := fun ρ e => h.ec e
theorem sg_retO {γ σ : Type} {n : Nat} {enc : γ → D} {outs : γ → List Ms} {Eσ : σ → List Ms} {v : γ} {ke : Kd} (ha : Ev E a ke (enc v) E1) (hl : Le E1 (outs v)) (ho : RetOk n (outs v) E1 (enc v) ke k) : Sg E (dSeq (dRet a) rest) (Po (Rt n enc k outs) Eσ) (.rt v) := fun ρ e => by
  obtain ⟨r, ρ1, e1, q1, c1⟩ := ha.2 ρ e
  have : dSeq (dRet a) rest ρ = .rt r ρ1 := by unfold dSeq dRet; rw [e1]
  rw [this]
  exact ⟨rt_ok q1 ha.1 c1 ho, hl.ec c1⟩
theorem for_out {α σ γ : Type} {g : DG} {R : γ → Rs → List Sl → Prop} {enc : α → D} {Eσ : σ → List Ms} {step : σ → α → Ou γ σ} {I : Nat → σ → Prop} {xs : List α}
    (hb : ∀ k x s, xs[k]? = some x → I k s → ∃ E2, Tg g (enc x) (Eσ s) E2 ∧ Sg E2 body (Po R Eσ) (step s x)) (hi : ∀ k x s s', xs[k]? = some x → I k s → (step s x = .nx s' ∨ step s x = .bk s') → I (k + 1) s') :
    ∀ (ys : List α) (k : Nat) (s : σ) (ρ : List Sl), xs.drop k = ys → k ≤ xs.length → I k s → Ec (Eσ s) ρ → match foldO step ys s with
      | .rt v => ∃ r ρ', forGo g body (ys.map enc) ρ = .rt r ρ' ∧ R v r ρ'
      | .nx s' => ∃ ρ', forGo g body (ys.map enc) ρ = .nx ρ' ∧ Ec (Eσ s') ρ' ∧ ∃ k, k ≤ xs.length ∧ I k s'
      | .bk s' => ∃ ρ', forGo g body (ys.map enc) ρ = .nx ρ' ∧ Ec (Eσ s') ρ' ∧ ∃ k, k ≤ xs.length ∧ I k s'
  | [], k, s, ρ, hd, hk, hI, e => ⟨ρ, rfl, e, k, hk, hI⟩
  | y :: ys, k, s, ρ, hd, hk, hI, e => by
    have hx : xs[k]? = some y := by
      have := congrArg (fun l => l[0]?) hd
      simpa using this
    have hlt : k < xs.length := (List.getElem?_eq_some_iff.mp hx).1
    have hd' : xs.drop (k + 1) = ys := by
      have := congrArg (List.drop 1) hd
      simpa using this
    obtain ⟨E2, h1, h2⟩ := hb k y s hx hI
    obtain ⟨ρ1, e1, c1⟩ := h1 ρ e
    have q := h2 ρ1 c1
    have hi' := fun s' => hi k y s s' hx hI
    unfold foldO
    rw [List.map_cons]
    unfold forGo
    simp only [e1]
    cases es : step s y with
    | rt v =>
      rw [es] at q
      cases eb : body ρ1 with
      | rt r ρ2 => rw [eb] at q; exact ⟨r, ρ2, rfl, q⟩
      | _ => rw [eb] at q; exact q.elim
    | bk s' =>
      rw [es] at q
      cases eb : body ρ1 with
      | bk ρ2 => rw [eb] at q; exact ⟨ρ2, rfl, q, k + 1, hlt, hi' s' (.inr es)⟩
      | _ => rw [eb] at q; exact q.elim
    | nx s' =>
      rw [es] at q
      cases eb : body ρ1 with
      | nx ρ2 => rw [eb] at q; exact for_out hb hi ys (k + 1) s' ρ2 hd' hlt (hi' s' (.inl es)) q
      | ct ρ2 => rw [eb] at q; exact for_out hb hi ys (k + 1) s' ρ2 hd' hlt (hi' s' (.inl es)) q
      | _ => rw [eb] at q; exact q.elim
theorem sg_forO {α σ γ : Type} {w : M Wk} {g : DG} {R : γ → Rs → List Sl → Prop} (enc : α → D) {xs : List α} (Eσ : σ → List Ms) {s0 : σ} {step : σ → α → Ou γ σ} (I : Nat → σ → Prop) {inj : γ → τ} {o : σ → τ}
    (hP : ∀ v r ρ l, R v r ρ → P (inj v) (.rt r (unl l ρ)))
    (hw : Ew E w (xs.map enc) li E1) (h0 : Le E1 (Eσ s0)) (i0 : I 0 s0)
    (hb : ∀ k x s, xs[k]? = some x → I k s → ∃ E2, Tg g (enc x) (Eσ s) E2 ∧ Sg E2 body (Po R Eσ) (step s x)) (hi : ∀ k x s s', xs[k]? = some x → I k s → (step s x = .nx s' ∨ step s x = .bk s') → I (k + 1) s')
    (hr : ∀ s, (∃ k, k ≤ xs.length ∧ I k s) → Sg (unlE li (Eσ s)) rest P (o s)) : Sg E (dSeq (dFor w g body) rest) P (seqO (foldO step xs s0) inj o) := fun ρ e => by
  obtain ⟨l, ρ1, e1, hl, c1⟩ := hw ρ e
  have h := for_out hb hi xs 0 s0 ρ1 rfl (Nat.zero_le _) i0 (h0.ec c1)
  unfold seqO
  cases ef : foldO step xs s0 with
  | rt v =>
    rw [ef] at h
    obtain ⟨r, ρ2, e2, q⟩ := h
    have : dSeq (dFor w g body) rest ρ = .rt r (unl l ρ2) := by unfold dSeq dFor; rw [e1]; simp only [e2]; rfl
    rw [this]; exact hP v r ρ2 l q
  | nx s =>
    rw [ef] at h
    obtain ⟨ρ2, e2, c2, q⟩ := h
    rw [seq_nx (ρ1 := unl l ρ2) (by unfold dFor; rw [e1]; simp only [e2]; rfl)]
    exact hr s q _ (unl_k hl c2)
  | bk s =>
    rw [ef] at h
    obtain ⟨ρ2, e2, c2, q⟩ := h
    rw [seq_nx (ρ1 := unl l ρ2) (by unfold dFor; rw [e1]; simp only [e2]; rfl)]
    exact hr s q _ (unl_k hl c2)
def noLk : List Ms → Bool
  | [] => true
  | .lk _ :: _ => false
  | _ :: E => noLk E
theorem noLk_at : ∀ {E : List Ms} {i : Nat} {d : D}, noLk E = true → E[i]? ≠ some (.lk d)
  | [], i, d, h => by simp
  | m :: E, 0, d, h => by
    intro z
    simp at z; subst z; cases h
  | m :: E, i + 1, d, h => by
    have : noLk E = true := by cases m <;> first | exact h | cases h
    simpa using noLk_at (i := i) (d := d) this
theorem ec_unl (h : Ec E ρ) (hn : noLk E = true) (l : Option Nat) : Ec E (unl l ρ) := by
  cases l with
  | none => exact h
  | some i =>
    have := unl_k (li := .sure i) (l := some i) rfl h
    unfold unlE at this
    cases em : E[i]? with
    | none => simp only [em] at this; exact this
    | some m =>
      simp only [em] at this
      cases m with
      | lk d => exact absurd em (noLk_at hn)
      | _ => exact this
theorem rdb_unl {i : Nat} {d : D} (h : Rdb ρ i d) (l : Option Nat) : Rdb (unl l ρ) i d := by
  unfold unl
  cases l with
  | none => exact h
  | some j =>
    simp only
    split
    · rename_i d' e
      by_cases hj : j = i
      · subst hj
        have hlt := (List.getElem?_eq_some_iff.mp e).1
        unfold Rdb
        rw [List.getElem?_set_self hlt]
        rcases h with h | h | h <;> rw [e] at h <;> cases h
        exact .inr (.inl rfl)
      · unfold Rdb; rw [List.getElem?_set_ne hj]; exact h
    · exact h
theorem at_unl {i : Nat} {s : Sl} (h : ρ[i]? = some s) (hs : ∀ d, s ≠ .lk d) (l : Option Nat) : (unl l ρ)[i]? = some s := by
  unfold unl
  cases l with
  | none => exact h
  | some j =>
    simp only
    split
    · rename_i d' e
      by_cases hj : j = i
      · subst hj; rw [h] at e; cases e; exact absurd rfl (hs _)
      · rw [List.getElem?_set_ne hj]; exact h
    · exact h
theorem rt_unl {α : Type} {n : Nat} {enc : α → D} {outs : α → List Ms} (hn : ∀ v, noLk (outs v) = true) {v : α} {r : Rs} (l : Option Nat) (h : Rt n enc k outs v r ρ) : Rt n enc k outs v r (unl l ρ) := by
  refine ⟨?_, ec_unl h.2 (hn v) l⟩
  have h := h.1
  cases k with
  | val =>
    rcases h with h | ⟨i, h, q⟩
    · exact .inl h
    · refine .inr ⟨i, h, ?_⟩
      rcases q with q | ⟨q1, q2, q⟩
      · exact .inl (at_unl q (fun _ z => nomatch z) l)
      · exact .inr ⟨q1, q2, rdb_unl q l⟩
  | new =>
    rcases h with h | ⟨i, h, q1, q⟩
    · exact .inl h
    · exact .inr ⟨i, h, q1, at_unl q (fun _ z => nomatch z) l⟩
  | vn =>
    rcases h with h | h | ⟨i, h, q1, q2, q⟩
    · exact .inl h
    · exact .inr (.inl h)
    · exact .inr (.inr ⟨i, h, q1, q2, rdb_unl q l⟩)
  | nam i => exact h.elim
  | own i => exact h.elim
theorem pr_out {α : Type} {n : Nat} {enc : α → D} {outs : α → List Ms} (hn : ∀ v, noLk (outs v) = true := by intro _; rfl) : ∀ v r ρ l, Rt n enc k outs v r ρ → Pr n enc k outs (id v) (.rt r (unl l ρ)) := fun _ _ _ l h => rt_unl hn l h
/-! ### while -/
def wh {σ : Type} (c : σ → Bool) (f : σ → σ) : Nat → σ → σ
  | 0, s => s
  | n + 1, s => if c s = true then wh c f n (f s) else s
theorem while_pure {σ : Type} {t : M Bool} {Eσ : σ → List Ms} {cc : σ → Bool} {step : σ → σ} {I : σ → Prop} (μ : σ → Nat)
    (hc : ∀ s, I s → Tj (Eσ s) t (cc s) (Eσ s)) (hb : ∀ s, I s → cc s = true → Sg (Eσ s) body (Pn Eσ) (step s)) (hi : ∀ s, I s → cc s = true → I (step s) ∧ μ (step s) < μ s) :
    ∀ (n N : Nat) (s : σ) (ρ : List Sl), μ s ≤ N → N < n → I s → Ec (Eσ s) ρ → ∃ ρ', whileGo t body n ρ = .nx ρ' ∧ Ec (Eσ (wh cc step N s)) ρ' ∧ I (wh cc step N s) ∧ cc (wh cc step N s) = false
  | 0, N, s, ρ, h1, h2, _, _ => by omega
  | n + 1, N, s, ρ, h1, h2, hI, e => by
    obtain ⟨ρ1, e1, c1⟩ := hc s hI ρ e
    unfold whileGo
    rw [e1]
    cases ec : cc s with
    | false =>
      have : wh cc step N s = s := by cases N <;> unfold wh <;> simp [ec]
      rw [this]; exact ⟨ρ1, rfl, c1, hI, ec⟩
    | true =>
      obtain ⟨h3, h4⟩ := hi s hI ec
      have q := hb s hI ec ρ1 c1
      match N, h1, h2 with
      | 0, h1, _ => omega
      | N + 1, h1, h2 =>
        have : wh cc step (N + 1) s = wh cc step N (step s) := by conv => lhs; unfold wh
                                                                  simp [ec]
        rw [this]
        simp only
        cases eb : body ρ1 with
        | nx ρ2 => rw [eb] at q; exact while_pure μ hc hb hi n N (step s) ρ2 (by omega) (by omega) h3 q
        | ct ρ2 => rw [eb] at q; exact while_pure μ hc hb hi n N (step s) ρ2 (by omega) (by omega) h3 q
        | _ => rw [eb] at q; exact q.elim
theorem sg_while {σ : Type} {t : M Bool} {n : Nat} (Eσ : σ → List Ms) (N : Nat) {s0 : σ} {cc : σ → Bool} {step : σ → σ} (I : σ → Prop) (μ : σ → Nat) {o : σ → τ} (h0 : Le E (Eσ s0)) (i0 : I s0) (hμ : μ s0 ≤ N) (hN : N < n)
    (hc : ∀ s, I s → Tj (Eσ s) t (cc s) (Eσ s)) (hb : ∀ s, I s → cc s = true → Sg (Eσ s) body (Pn Eσ) (step s)) (hi : ∀ s, I s → cc s = true → I (step s) ∧ μ (step s) < μ s)
    (hr : ∀ s, s = wh cc step N s0 → I s → cc s = false → Sg (Eσ s) rest P (o s)) : Sg E (dSeq (dWhile n t body) rest) P (Let (wh cc step N s0) o) := fun ρ e => by
  obtain ⟨ρ2, e2, c2, i2, z⟩ := while_pure μ hc hb hi n N s0 ρ hμ hN i0 (h0.ec e)
  rw [seq_nx (s := dWhile n t body) (ρ1 := ρ2) e2]
  exact hr _ rfl i2 z ρ2 c2
/-! ### comprehensions -/
def wipeE : List Nat → List Ms → List Ms
  | [], E => E
  | i :: is, E => (wipeE is E).set i .any
theorem wipe_k : ∀ {own : List Nat}, Ec E ρ → Ec (wipeE own E) (wipeR own ρ)
  | [], h => h
  | _ :: _, h => (wipe_k h).set _ trivial
theorem wipeE_len : ∀ own, (wipeE own E).length = E.length
  | [] => rfl
  | i :: is => by unfold wipeE; rw [List.length_set, wipeE_len is]
theorem wipeE_out {i : Nat} : ∀ {own : List Nat}, i ∉ own → (wipeE own E)[i]? = E[i]?
  | [], h => rfl
  | j :: js, h => by
    unfold wipeE
    have hj : j ≠ i := fun z => h (z ▸ List.mem_cons_self)
    rw [List.getElem?_set_ne hj]
    exact wipeE_out fun z => h (List.mem_cons_of_mem _ z)
theorem rest_k {own : List Nat} (h1 : Ec E ρ1) (h2 : Ec (wipeE own E2) ρ2) (hE : wipeE own E2 = wipeE own E) : Ec E (restore own ρ1 ρ2) := by
  have hl : ρ2.length = ρ1.length := by rw [← h1.len, ← h2.len, hE, wipeE_len]
  refine Ec.pt (by rw [restore_len hl, h1.len]) fun i m s e1 e2 => ?_
  have hi : i < ρ1.length := by rw [← h1.len]; exact (List.getElem?_eq_some_iff.mp e1).1
  by_cases hm : i ∈ own
  · rw [restore_in hl hi hm] at e2; exact h1.at e1 e2
  · rw [restore_out hm] at e2
    refine h2.at (i := i) ?_ e2
    rw [hE, wipeE_out hm]; exact e1
theorem lc_pure {α : Type} {own : List Nat} {g : DG} {tt : M Bool} {te : M Rs} {enc : α → D} {p : α → Bool} {fe : α → D} {Eb : List Ms} :
    ∀ (xs : List α), (∀ x ∈ xs, ∃ E2, Tg g (enc x) Eb E2 ∧ Tj E2 tt (p x) E2 ∧ (p x = false → Le (wipeE own E2) Eb) ∧ (p x = true → ∃ k E3, Ev E2 te k (fe x) E3 ∧ Le (wipeE own (frzE k (fe x) E3)) Eb)) →
    ∀ (acc : List D) (ρ : List Sl), Ec Eb ρ → ∃ ρ', lcGo own g tt te (xs.map enc) acc ρ = .ok (acc ++ (xs.filter p).map fe) ρ' ∧ Ec Eb ρ'
  | [], _, acc, ρ, e => ⟨ρ, by simp [lcGo, pr], e⟩
  | x :: xs, h, acc, ρ, e => by
    obtain ⟨E2, h1, h2, h4, h3⟩ := h x (by simp)
    have ih := lc_pure xs fun y hy => h y (by simp [hy])
    obtain ⟨ρ1, e1, c1⟩ := h1 ρ e
    obtain ⟨ρ2, e2, c2⟩ := h2 ρ1 c1
    rw [List.map_cons]
    unfold lcGo
    simp only [e1, e2]
    rw [List.filter_cons]
    cases hp : p x with
    | false =>
      obtain ⟨ρ3, e3, c3⟩ := ih acc _ ((h4 hp).ec (wipe_k c2))
      exact ⟨ρ3, e3, c3⟩
    | true =>
      obtain ⟨k, E3, q1, q2⟩ := h3 hp
      obtain ⟨r, ρ3, e3, q3, c3⟩ := q1.2 ρ2 c2
      obtain ⟨ρ4, e4, c4⟩ := frz_k q3 q1.1 c3
      obtain ⟨ρ5, e5, c5⟩ := ih (acc ++ [fe x]) _ (q2.ec (wipe_k c4))
      simp only [bd_eq e3, e4]
      exact ⟨ρ5, by rw [e5, List.append_assoc]; rfl, c5⟩
theorem ev_lc {α β : Type} {own : List Nat} {w : M Wk} {g : DG} {tt : M Bool} {te : M Rs} (enc : α → D) (encB : β → D) {xs : List α} {p : α → Bool} {fe : α → β}
    (hw : Ew E w (xs.map enc) li E1) (hsz : xs.length ≤ 16777216)
    (hb : ∀ x ∈ xs, ∃ E2, Tg g (enc x) (wipeE own E1) E2 ∧ Tj E2 tt (p x) E2 ∧ (p x = false → Le (wipeE own E2) (wipeE own E1)) ∧ (p x = true → ∃ k E3, Ev E2 te k (encB (fe x)) E3 ∧ Le (wipeE own (frzE k (encB (fe x)) E3)) (wipeE own E1))) :
    Ev E (dLc own w g tt te) .new (.list (((xs.filter p).map fe).map encB)) (unlE li E1) := ⟨trivial, fun ρ e => by
  obtain ⟨l, ρ1, e1, hl, c1⟩ := hw ρ e
  obtain ⟨ρ2, e2, c2⟩ := lc_pure (fe := fun x => encB (fe x)) xs hb [] _ (wipe_k (own := own) c1)
  refine ⟨_, _, ?_, rfl, unl_k hl (rest_k c1 c2 rfl)⟩
  unfold dLc
  simp only [e1, e2]
  rw [if_pos (by rw [List.length_map, sizeLine_eq]; exact hsz), List.nil_append, List.map_map]; rfl⟩
theorem ev_lcY {α β : Type} {own : List Nat} {w : M Wk} {g : DG} {te : M Rs} (enc : α → D) (encB : β → D) {xs : List α} {fe : α → β}
    (hw : Ew E w (xs.map enc) li E1) (hsz : xs.length ≤ 16777216)
    (hb : ∀ x ∈ xs, ∃ E2, Tg g (enc x) (wipeE own E1) E2 ∧ ∃ k E3, Ev E2 te k (encB (fe x)) E3 ∧ Le (wipeE own (frzE k (encB (fe x)) E3)) (wipeE own E1)) :
    Ev E (dLc own w g dYes te) .new (.list ((xs.map fe).map encB)) (unlE li E1) := by
  have := ev_lc (p := fun _ => true) (tt := dYes) enc encB (fe := fe) hw hsz fun x hx => by
    obtain ⟨E2, h1, h2⟩ := hb x hx
    exact ⟨E2, h1, fun ρ e => ⟨ρ, rfl, e⟩, (fun z => nomatch z), fun _ => h2⟩
  rwa [filter_yes] at this
/-- with a state that goes on -/
def mapS {α β σ : Type} (f : σ → α → β × σ) : σ → List α → List β × σ
  | s, [] => ([], s)
  | s, x :: xs => ((f s x).1 :: (mapS f (f s x).2 xs).1, (mapS f (f s x).2 xs).2)
end
end TL
namespace TL
open PySem L2 DL
section
variable {E E1 E2 E3 : List Ms} {m a b c e : M Rs} {k ka kb kc : Kd} {d da db dc : D} {i j : Nat} {f : M (List Rs)} {ks : List Kd} {ds : List D} {τ : Type} {P : τ → SR → Prop} {rest s s1 s2 body : DS} {v x y : τ} {li : Lki} {l : Option Nat} {ρ ρ1 ρ2 : List Sl}
/-! ### calls -/
def nmI : List Kd → List Nat
  | .nam i :: ks => i :: nmI ks
  | .own i :: ks => i :: nmI ks
  | _ :: ks => nmI ks
  | [] => []
def OwE : Option Ms → D → Ms → Prop
  | some (.ow e), d, m => e = d ∧ Lm (.ow d) m
  | some (.lk e), d, m => e = d ∧ Lm (.lk d) m
  | _, _, _ => False
def RdX : Option Ms → D → Prop
  | some (.rd e), d => e = d
  | _, _ => False
theorem RdX.rdm {o : Option Ms} {d : D} (h : RdX o d) : RdM o d := by
  cases o with
  | none => exact h
  | some m => cases m <;> first | exact h | exact h.elim
/-- one argument: how it is lent, what it is, the slots ahead, what the def asks, what it leaves -/
def Nam2 (o : Option Ms) (d : D) (m m' : Ms) : Bool → Prop
  | true => RdX o d ∧ Lm (.rd d) m ∧ Lm m' (.rd d)
  | false => RdR o d ∧ Lm (.fz d) m
def Own2 (o : Option Ms) (d : D) (m : Ms) : Bool → Prop
  | true => OwE o d m
  | false => RdM o d ∧ Lm (.fz d) m
def Arg1 (l : Bool) (k : Kd) (d : D) (E : List Ms) (m m' : Ms) : Prop := match k with
  | .val => Lm (.fz d) m
  | .new => Lm (.ow d) m
  | .vn => Lm (.rd d) m
  | .nam i => Nam2 E[i]? d m m' l
  | .own i => Own2 E[i]? d m l
def ArgOk : List Bool → List Kd → List D → List Ms → List Ms → List Ms → Prop
  | l :: ls, k :: ks, d :: ds, E, m :: ins, m' :: outs => Arg1 l k d E m m' ∧ ArgOk ls ks ds E ins outs
  | [], [], [], _, [], [] => True
  | _, _, _, _, _, _ => False
def argE : List Bool → List Kd → List D → List Ms → List Ms
  | false :: ls, .own i :: ks, d :: ds, E => argE ls ks ds (E.set i (.fz d))
  | _ :: ls, _ :: ks, _ :: ds, E => argE ls ks ds E
  | _, _, _, E => E
def wbE : List Bool → List Kd → List Ms → List Ms → List Ms
  | true :: ls, .own i :: ks, m :: outs, E => wbE ls ks outs (E.set i m)
  | _ :: ls, _ :: ks, _ :: outs, E => wbE ls ks outs E
  | _, _, _, E => E
theorem Arg1.frame {l : Bool} {m m' n : Ms} (h : Arg1 l k d E m m') (hi : ∀ j ∈ nmI [k], j ≠ i) : Arg1 l k d (E.set i n) m m' := by
  cases k with
  | nam j =>
    have : i ≠ j := fun z => hi j (by simp [nmI]) z.symm
    show Nam2 (E.set i n)[j]? d m m' l
    rw [List.getElem?_set_ne this]; exact h
  | own j =>
    have : i ≠ j := fun z => hi j (by simp [nmI]) z.symm
    show Own2 (E.set i n)[j]? d m l
    rw [List.getElem?_set_ne this]; exact h
  | _ => exact h
theorem nmI_cons : nmI (k :: ks) = nmI [k] ++ nmI ks := by cases k <;> rfl
theorem ArgOk.frame {n : Ms} : ∀ {ls : List Bool} {ks : List Kd} {ds : List D} {ins outs : List Ms}, ArgOk ls ks ds E ins outs → i ∉ nmI ks → ArgOk ls ks ds (E.set i n) ins outs
  | l :: ls, k :: ks, d :: ds, m :: ins, m' :: outs, h, hi => by
    rw [nmI_cons, List.mem_append] at hi
    exact ⟨Arg1.frame h.1 fun j hj z => hi (.inl (z ▸ hj)), ArgOk.frame h.2 fun z => hi (.inr z)⟩
  | [], [], [], [], [], _, _ => trivial
  | [], [], [], _ :: _, _, h, _ => h.elim
  | [], [], [], [], _ :: _, h, _ => h.elim
  | [], [], _ :: _, _, _, h, _ => h.elim
  | [], _ :: _, _, _, _, h, _ => h.elim
  | _ :: _, [], _, _, _, h, _ => h.elim
  | _ :: _, _ :: _, [], _, _, h, _ => h.elim
  | _ :: _, _ :: _, _ :: _, [], _, h, _ => h.elim
  | _ :: _, _ :: _, _ :: _, _ :: _, [], h, _ => h.elim
/-- one argument as it is lent -/
def Re1 (l : Bool) (k : Kd) (m : Ms) (ρ : List Sl) : Rs → Prop
  | .fz d => Mo m (.fz d) ∧ (l = true → ∀ i, k ≠ .own i)
  | .ow d => Mo m (.ow d) ∧ (∀ i, k ≠ .own i)
  | .nm i => l = true ∧ (k = .nam i ∨ k = .own i) ∧ ∃ s, ρ[i]? = some s ∧ Mo m s ∧ ((∃ d, s = .ow d) ∨ ∃ d, s = .lk d)
theorem argS_k {l : Bool} {r : Rs} {m m' : Ms} (h : Kr k d r) (e : Ec E ρ) (q : Arg1 l k d E m m') : ∃ r' ρ', argS l r ρ = .ok r' ρ' ∧ Ec (argE [l] [k] [d] E) ρ' ∧ Re1 l k m ρ' r' ∧ (∀ j, j ∉ nmI [k] → ρ'[j]? = ρ[j]?) := by
  cases k with
  | val => have h : r = .fz d := h; subst h; cases l <;> exact ⟨_, ρ, rfl, e, ⟨Lm.mo q rfl, fun _ _ z => nomatch z⟩, fun _ _ => rfl⟩
  | new => have h : r = .ow d := h; subst h; cases l <;> exact ⟨_, ρ, rfl, e, ⟨Lm.mo q rfl, fun _ z => nomatch z⟩, fun _ _ => rfl⟩
  | vn =>
    rcases h with h | h <;> subst h
    · cases l <;> exact ⟨_, ρ, rfl, e, ⟨Lm.mo q (.inl rfl), fun _ _ z => nomatch z⟩, fun _ _ => rfl⟩
    · cases l <;> exact ⟨_, ρ, rfl, e, ⟨Lm.mo q (.inr (.inl rfl)), fun _ z => nomatch z⟩, fun _ _ => rfl⟩
  | nam i =>
    have fzk : ∀ (hl : l = false), Ec E (ρ.set i (.fz d)) := fun hl => by
      subst hl
      obtain ⟨q1, q2⟩ := q
      cases em : E[i]? with
      | none => rw [em] at q1; exact q1.elim
      | some m =>
        rw [em] at q1
        cases m with
        | fz d' => have q1 : d' = d := q1; subst q1; exact e.setR em rfl
        | rd d' => have q1 : d' = d := q1; subst q1; exact e.setR em (.inl rfl)
        | _ => exact q1.elim
    have aE : argE [l] [.nam i] [d] E = E := by cases l <;> rfl
    rw [aE]
    cases l with
    | true =>
      obtain ⟨q1, q2, q3⟩ := q
      rcases h with h | h <;> subst h
      · exact ⟨_, ρ, rfl, e, ⟨Lm.mo q2 (.inl rfl), fun _ _ z => nomatch z⟩, fun _ _ => rfl⟩
      · rcases e.rd (RdX.rdm q1) with z | z | z
        · exact ⟨.fz d, ρ, by unfold argS; simp only [z], e, ⟨Lm.mo q2 (.inl rfl), fun _ _ z => nomatch z⟩, fun _ _ => rfl⟩
        · exact ⟨.nm i, ρ, by unfold argS; simp only [z, if_true], e, ⟨rfl, .inl rfl, _, z, Lm.mo q2 (.inr (.inl rfl)), .inl ⟨d, rfl⟩⟩, fun _ _ => rfl⟩
        · exact ⟨.nm i, ρ, by unfold argS; simp only [z, if_true], e, ⟨rfl, .inl rfl, _, z, Lm.mo q2 (.inr (.inr rfl)), .inr ⟨d, rfl⟩⟩, fun _ _ => rfl⟩
    | false =>
      obtain ⟨q1, q2⟩ := q
      have fr : ∀ j, j ∉ nmI [.nam i] → (ρ.set i (.fz d))[j]? = ρ[j]? := fun j hj => List.getElem?_set_ne fun z => hj (by subst z; simp [nmI])
      rcases h with h | h <;> subst h
      · exact ⟨_, ρ, rfl, e, ⟨Lm.mo q2 rfl, fun z => nomatch z⟩, fun _ _ => rfl⟩
      · rcases e.rd q1.m with z | z | z
        · exact ⟨.fz d, ρ, by unfold argS; simp only [z], e, ⟨Lm.mo q2 rfl, fun z => nomatch z⟩, fun _ _ => rfl⟩
        · exact ⟨.fz d, _, by unfold argS; simp only [z]; rfl, fzk rfl, ⟨Lm.mo q2 rfl, fun z => nomatch z⟩, fr⟩
        · exact ⟨.fz d, _, by unfold argS; simp only [z]; rfl, fzk rfl, ⟨Lm.mo q2 rfl, fun z => nomatch z⟩, fr⟩
  | own i =>
    have h : r = .nm i := h; subst h
    cases l with
    | true =>
      have q : OwE E[i]? d m := q
      cases em : E[i]? with
      | none => rw [em] at q; exact q.elim
      | some m0 =>
        rw [em] at q
        obtain ⟨s, z1, z2⟩ := e.get em
        cases m0 with
        | ow d' =>
          have z2 : s = .ow d' := z2; subst z2
          obtain ⟨q1, q2⟩ := q
          exact ⟨.nm i, ρ, by unfold argS; simp only [z1, if_true], e, ⟨rfl, .inr rfl, _, z1, by subst q1; exact Lm.mo q2 rfl, .inl ⟨_, rfl⟩⟩, fun _ _ => rfl⟩
        | lk d' =>
          have z2 : s = .lk d' := z2; subst z2
          obtain ⟨q1, q2⟩ := q
          exact ⟨.nm i, ρ, by unfold argS; simp only [z1, if_true], e, ⟨rfl, .inr rfl, _, z1, by subst q1; exact Lm.mo q2 rfl, .inr ⟨_, rfl⟩⟩, fun _ _ => rfl⟩
        | _ => exact q.elim
    | false =>
      obtain ⟨q1, q2⟩ := q
      have hz : Ec (E.set i (.fz d)) (ρ.set i (.fz d)) := e.set i rfl
      have fr : ∀ j, j ∉ nmI [.own i] → (ρ.set i (.fz d))[j]? = ρ[j]? := fun j hj => List.getElem?_set_ne fun z => hj (by subst z; simp [nmI])
      have ae : argE [false] [.own i] [d] E = E.set i (.fz d) := rfl
      rw [ae]
      rcases e.rd q1 with z | z | z
      · exact ⟨.fz d, ρ, by unfold argS; simp only [z], by rwa [set_self' z] at hz, ⟨Lm.mo q2 rfl, fun z => nomatch z⟩, fun _ _ => rfl⟩
      · exact ⟨.fz d, _, by unfold argS; simp only [z]; rfl, hz, ⟨Lm.mo q2 rfl, fun z => nomatch z⟩, fr⟩
      · exact ⟨.fz d, _, by unfold argS; simp only [z]; rfl, hz, ⟨Lm.mo q2 rfl, fun z => nomatch z⟩, fr⟩
def ReA : List Bool → List Kd → List Ms → List Sl → List Rs → Prop
  | l :: ls, k :: ks, m :: ms, ρ, r :: rs => Re1 l k m ρ r ∧ ReA ls ks ms ρ rs
  | [], [], [], _, [] => True
  | _, _, _, _, _ => False
theorem argE_cons {l : Bool} {ls : List Bool} : argE (l :: ls) (k :: ks) (d :: ds) E = argE ls ks ds (argE [l] [k] [d] E) := by
  cases l <;> cases k <;> rfl
theorem argE1_ok {l : Bool} {ls : List Bool} {ins outs : List Ms} (h : ArgOk ls ks ds E ins outs) (hn : ∀ j ∈ nmI [k], j ∉ nmI ks) : ArgOk ls ks ds (argE [l] [k] [d] E) ins outs := by
  cases l <;> cases k <;> first | exact h | exact ArgOk.frame h (hn _ (by simp [nmI]))
theorem argSA_k : ∀ {ls : List Bool} {ks : List Kd} {ds : List D} {rs : List Rs} {E ins outs : List Ms} {ρ : List Sl}, KrA ks ds rs → Ec E ρ → ArgOk ls ks ds E ins outs → (nmI ks).Nodup →
    ∃ rs' ρ', argSA ls rs ρ = .ok rs' ρ' ∧ Ec (argE ls ks ds E) ρ' ∧ ReA ls ks ins ρ' rs' ∧ (∀ j, j ∉ nmI ks → ρ'[j]? = ρ[j]?)
  | [], [], [], [], E, [], [], ρ, _, e, _, _ => ⟨[], ρ, rfl, e, trivial, fun _ _ => rfl⟩
  | l :: ls, k :: ks, d :: ds, r :: rs, E, m :: ins, m' :: outs, ρ, h, e, q, hn => by
    rw [nmI_cons, List.nodup_append] at hn
    obtain ⟨hn1, hn2, hn3⟩ := hn
    have hn3' : ∀ j ∈ nmI [k], j ∉ nmI ks := fun j hj z => hn3 j hj j z rfl
    obtain ⟨r', ρ1, e1, c1, w1, f1⟩ := argS_k h.1 e q.1
    obtain ⟨rs', ρ2, e2, c2, w2, f2⟩ := argSA_k h.2 c1 (argE1_ok (l := l) (d := d) q.2 hn3') hn2
    refine ⟨r' :: rs', ρ2, by unfold argSA; rw [bd_eq e1, bd_eq e2]; rfl, by rw [argE_cons]; exact c2, ⟨?_, w2⟩, fun j hj => ?_⟩
    · cases r' with
      | fz _ => exact w1
      | ow _ => exact w1
      | nm i =>
        obtain ⟨w3, w4, s, w5, w6⟩ := w1
        refine ⟨w3, w4, s, ?_, w6⟩
        rw [f2 i (hn3' i (by rcases w4 with w4 | w4 <;> subst w4 <;> simp [nmI]))]; exact w5
    · rw [nmI_cons, List.mem_append] at hj
      rw [f2 j fun z => hj (.inr z), f1 j fun z => hj (.inl z)]
  | [], [], [], _ :: _, _, _, _, _, h, _, _, _ => h.elim
  | [], [], [], [], _, _ :: _, _, _, _, _, h, _ => h.elim
  | [], [], [], [], _, [], _ :: _, _, _, _, h, _ => h.elim
  | _, [], _ :: _, _, _, _, _, _, h, _, _, _ => h.elim
  | _, _ :: _, [], _, _, _, _, _, h, _, _, _ => h.elim
  | _, _ :: _, _ :: _, [], _, _, _, _, h, _, _, _ => h.elim
  | [], _ :: _, _ :: _, _ :: _, _, _, _, _, _, _, h, _ => h.elim
  | _ :: _, [], [], _, _, _, _, _, _, _, h, _ => h.elim
  | _ :: _, _ :: _, _ :: _, _ :: _, _, [], _, _, _, _, h, _ => h.elim
  | _ :: _, _ :: _, _ :: _, _ :: _, _, _ :: _, [], _, _, _, h, _ => h.elim
theorem re_slots : ∀ {ls : List Bool} {ks : List Kd} {ins : List Ms} {rs : List Rs}, ReA ls ks ins ρ rs → Ec ins (rs.map (slotOf ρ)) ∧ rs.all (heldR ρ) = true ∧ ∀ i, (rs.any (isNm i)) = true → i ∈ nmI ks
  | [], [], [], [], _ => ⟨trivial, rfl, fun i h => by simp at h⟩
  | l :: ls, k :: ks, m :: ms, r :: rs, h => by
    obtain ⟨h1, h2⟩ := h
    obtain ⟨q1, q2, q3⟩ := re_slots h2
    rw [List.map_cons, List.all_cons]
    cases r with
    | fz d => exact ⟨⟨h1.1, q1⟩, by rw [q2]; rfl, fun i hi => by rw [nmI_cons, List.mem_append]; exact .inr (q3 i (by simpa [isNm] using hi))⟩
    | ow d => exact ⟨⟨h1.1, q1⟩, by rw [q2]; rfl, fun i hi => by rw [nmI_cons, List.mem_append]; exact .inr (q3 i (by simpa [isNm] using hi))⟩
    | nm j =>
      obtain ⟨_, w4, s, w5, w6, w7⟩ := h1
      refine ⟨⟨by unfold slotOf; simp only [w5]; exact w6, q1⟩, ?_, fun i hi => ?_⟩
      · rw [q2]
        unfold heldR
        rcases w7 with ⟨d, rfl⟩ | ⟨d, rfl⟩ <;> simp only [w5] <;> rfl
      · rw [nmI_cons, List.mem_append]
        rw [List.any_cons, Bool.or_eq_true] at hi
        rcases hi with hi | hi
        · have : i = j := by simpa [isNm] using hi
          subst this
          left; rcases w4 with w4 | w4 <;> subst w4 <;> simp [nmI]
        · exact .inr (q3 i hi)
  | [], [], [], _ :: _, h => h.elim
  | [], [], _ :: _, _, h => h.elim
  | [], _ :: _, _, _, h => h.elim
  | _ :: _, [], _, _, h => h.elim
  | _ :: _, _ :: _, [], _, h => h.elim
  | _ :: _, _ :: _, _ :: _, [], h => h.elim
theorem re_nm : ∀ {ls : List Bool} {ks : List Kd} {ins : List Ms} {rs : List Rs}, ReA ls ks ins ρ rs → (nmI ks).Nodup → nmOk rs = true
  | [], [], [], [], _, _ => rfl
  | l :: ls, k :: ks, m :: ms, r :: rs, h, hn => by
    rw [nmI_cons, List.nodup_append] at hn
    have ih := re_nm h.2 hn.2.1
    cases r with
    | fz d => exact ih
    | ow d => exact ih
    | nm j =>
      obtain ⟨_, w4, _⟩ := h.1
      show (!(rs.any (isNm j)) && nmOk rs) = true
      rw [ih, Bool.and_true, Bool.not_eq_true', Bool.eq_false_iff]
      intro z
      have h1 := (re_slots h.2).2.2 j z
      have h2 : j ∈ nmI [k] := by rcases w4 with w4 | w4 <;> subst w4 <;> simp [nmI]
      exact hn.2.2 j h2 j h1 rfl
  | [], [], [], _ :: _, h, _ => h.elim
  | [], [], _ :: _, _, h, _ => h.elim
  | [], _ :: _, _, _, h, _ => h.elim
  | _ :: _, [], _, _, h, _ => h.elim
  | _ :: _, _ :: _, [], _, h, _ => h.elim
  | _ :: _, _ :: _, _ :: _, [], h, _ => h.elim
theorem wb_k : ∀ {ks : List Kd} {ls : List Bool} {ds : List D} {ins outs : List Ms} {rs : List Rs} {E : List Ms} {ρ0 ρ ρp : List Sl}, ReA ls ks ins ρ0 rs → Ec outs ρp → Ec E ρ → ArgOk ls ks ds E ins outs → (nmI ks).Nodup → Ec (wbE ls ks outs E) (wb rs ρp ρ) := by
  intro ks
  induction ks with
  | nil =>
    intro ls ds ins outs rs E ρ0 ρ ρp h ho e q hn
    have e1 : wbE ls [] outs E = E := by cases ls <;> first | rfl | (rename_i l ls; cases l <;> rfl)
    have e2 : rs = [] := by
      cases ls with
      | nil => cases ins with
        | nil => cases rs with
          | nil => rfl
          | cons _ _ => exact h.elim
        | cons _ _ => exact h.elim
      | cons _ _ => exact h.elim
    rw [e1, e2]; exact e
  | cons k ks ih =>
    intro ls ds ins outs rs E ρ0 ρ ρp h ho e q hn
    cases ls with
    | nil => exact h.elim
    | cons l ls =>
    cases ds with
    | nil => exact q.elim
    | cons d ds =>
    cases ins with
    | nil => exact h.elim
    | cons m ins =>
    cases outs with
    | nil => exact q.elim
    | cons m' outs =>
    cases rs with
    | nil => exact h.elim
    | cons r rs =>
    cases ρp with
    | nil => exact ho.elim
    | cons s ρp =>
    rw [nmI_cons, List.nodup_append] at hn
    obtain ⟨hn1, hn2, hn3⟩ := hn
    have hn3' : ∀ j ∈ nmI [k], j ∉ nmI ks := fun j hj z => hn3 j hj j z rfl
    have triv : (∀ i, (l = true ∧ k = .own i) → False) → Ec E (wb [r] [s] ρ) → Ec (wbE (l :: ls) (k :: ks) (m' :: outs) E) (wb (r :: rs) (s :: ρp) ρ) := fun hk hh => by
      have e1 : wbE (l :: ls) (k :: ks) (m' :: outs) E = wbE ls ks outs E := by
        cases l <;> cases k <;> first | rfl | exact (hk _ ⟨rfl, rfl⟩).elim
      rw [e1]
      have e2 : wb (r :: rs) (s :: ρp) ρ = wb rs ρp (wb [r] [s] ρ) := by cases r <;> rfl
      rw [e2]
      exact ih h.2 ho.2 hh q.2 hn2
    cases r with
    | fz d' => exact triv (fun i z => h.1.2 z.1 i z.2) e
    | ow d' => exact triv (fun i z => h.1.2 i z.2) e
    | nm i =>
      obtain ⟨w3, w4, _⟩ := h.1
      subst w3
      rcases w4 with w4 | w4 <;> subst w4
      · refine triv (fun i z => nomatch z.2) ?_
        have q0 : Nam2 E[i]? d m m' true := q.1
        obtain ⟨q1, q2, q3⟩ := q0
        show Ec E (ρ.set i s)
        have ms : Mo (.rd d) s := Lm.mo q3 ho.1
        cases em : E[i]? with
        | none => rw [em] at q1; exact q1.elim
        | some m0 =>
          rw [em] at q1
          cases m0 with
          | rd d' => have q1 : d' = d := q1; subst q1; exact e.setR em ms
          | _ => exact q1.elim
      · show Ec (wbE ls ks outs (E.set i m')) (wb rs ρp (ρ.set i s))
        exact ih h.2 ho.2 (e.set i ho.1) (ArgOk.frame q.2 (hn3' i (by simp [nmI]))) hn2
theorem argE_okA : ∀ {ks : List Kd} {ls : List Bool} {ds : List D} {ins outs : List Ms} {E : List Ms}, ArgOk ls ks ds E ins outs → (nmI ks).Nodup → ArgOk ls ks ds (argE ls ks ds E) ins outs := by
  intro ks
  induction ks with
  | nil =>
    intro ls ds ins outs E q hn
    cases ls with
    | nil => exact q
    | cons l ls => cases ds <;> exact q.elim
  | cons k ks ih =>
    intro ls ds ins outs E q hn
    cases ls with
    | nil => exact q.elim
    | cons l ls =>
    cases ds with
    | nil => exact q.elim
    | cons d ds =>
    cases ins with
    | nil => exact q.elim
    | cons m ins =>
    cases outs with
    | nil => exact q.elim
    | cons m' outs =>
    rw [nmI_cons, List.nodup_append] at hn
    obtain ⟨hn1, hn2, hn3⟩ := hn
    have hn3' : ∀ j ∈ nmI [k], j ∉ nmI ks := fun j hj z => hn3 j hj j z rfl
    rw [argE_cons]
    have h1 := argE1_ok (l := l) (d := d) q.2 hn3'
    refine ⟨?_, ih h1 hn2⟩
    -- the first one through all
    have key : ∀ {ks : List Kd} {ls : List Bool} {ds : List D} {E : List Ms}, (∀ j ∈ nmI [k], j ∉ nmI ks) → Arg1 l k d E m m' → Arg1 l k d (argE ls ks ds E) m m' := by
      intro ks
      induction ks with
      | nil => intro ls ds E _ h; cases ls with
        | nil => exact h
        | cons l' ls => cases l' <;> exact h
      | cons k' ks ih2 =>
        intro ls ds E hj h
        cases ls with
        | nil => exact h
        | cons l' ls =>
          cases ds with
          | nil => cases l' <;> cases k' <;> exact h
          | cons d' ds =>
            rw [argE_cons]
            refine ih2 (fun j hj' z => hj j hj' (by rw [nmI_cons, List.mem_append]; exact .inr z)) ?_
            cases l' <;> cases k' <;> first | exact h | exact Arg1.frame h fun j hj' z => hj j hj' (by subst z; simp [nmI])
    refine key hn3' ?_
    have q1 := q.1
    cases l <;> cases k <;> first | exact q1 | skip
    rename_i i
    obtain ⟨q1, q2⟩ := q1
    refine ⟨?_, q2⟩
    show RdM (E.set i (.fz d))[i]? d
    exact RdM.set q1 q1
theorem ev_call {ls : List Bool} {sem : M Rs} {ins outs : List Ms} (hs : Ev ins sem k d outs) (ha : Ea E f ks ds E1) (hr : ArgOk ls ks ds E1 ins outs) (hn : (nmI ks).Nodup := by decide) (hk : ∀ d E, Rdk k d E := by intro _ _; exact True.intro) :
    Ev E (dCall ls sem f) k d (wbE ls ks outs (argE ls ks ds E1)) := ⟨hk _ _, fun ρ e => by
  obtain ⟨rs, ρ1, e1, q1, c1⟩ := ha ρ e
  obtain ⟨rs', ρ2, e2, c2, w2, _⟩ := argSA_k q1 c1 hr hn
  obtain ⟨z1, z2, _⟩ := re_slots w2
  obtain ⟨r, ρp, e3, q3, c3⟩ := hs.2 _ z1
  have hb := wb_k w2 c3 c2 (argE_okA hr hn) hn
  have hnm := re_nm w2 hn
  have go : ∀ (hh : (∃ d', r = .fz d') ∨ ∃ d', r = .ow d'), dCall ls sem f ρ = .ok r (wb rs' ρp ρ2) := fun hh => by
    unfold dCall
    rw [bd_eq e1, bd_eq e2]
    rw [if_pos (by rw [hnm, z2]; rfl)]
    rcases hh with ⟨d', rfl⟩ | ⟨d', rfl⟩ <;> simp only [e3]
  refine ⟨r, _, go ?_, q3, hb⟩
  cases k with
  | val => exact .inl ⟨_, q3⟩
  | new => exact .inr ⟨_, q3⟩
  | vn => exact q3.imp (fun z => ⟨_, z⟩) fun z => ⟨_, z⟩
  | nam i => exact (hk (.bool true) []).elim
  | own i => exact (hk (.bool true) []).elim⟩
end
end TL
namespace TL
open PySem L2 DL
section
variable {E E1 E2 E3 : List Ms} {m a b c e fi fe : M Rs} {k ka kb kc : Kd} {d d0 d1 d' dn da db dc : D} {i j : Nat} {f : M (List Rs)} {ks : List Kd} {ds : List D} {τ : Type} {P : τ → SR → Prop} {rest s s1 s2 body : DS} {v x y : τ} {li : Lki} {l : Option Nat} {ρ ρ1 ρ2 : List Sl}
/-- values told once, in the slots, too -/
theorem sg_gen {α : Type} (Ef : α → List Ms) {x : α} {o : α → τ} (h : ∀ y, y = x → Sg (Ef y) s P (o y)) : Sg (Ef x) s P (Let x o) := h x rfl
theorem Ec.own (h : Ec E ρ) (e : E[i]? = some (.ow d)) : ρ[i]? = some (.ow d) := by
  obtain ⟨s, e1, e2⟩ := h.get e
  have e2 : s = .ow d := e2; subst e2; exact e1
theorem Ec.good (h : Ec E ρ) (e : E[i]? = some (.fz d)) : ρ[i]? = some (.fz d) := by
  obtain ⟨s, e1, e2⟩ := h.get e
  have e2 : s = .fz d := e2; subst e2; exact e1
/-- a method that changes the list of a slot -/
theorem ev_mut {cc : D → Bool} {g : D → List D → Option (D × D)} {res : D} (hi : E[i]? = some (.ow d0)) (hc : cc d0 = true) (ha : Ea E f ks ds E1) (hr : RdkA ks ds E1) (hi1 : (frzEA ks ds E1)[i]? = some (.ow d1)) (hg : g d1 ds = some (d', res)) :
    Ev E (dMut i cc true g f) .val res ((frzEA ks ds E1).set i (.ow d')) := ⟨trivial, fun ρ q => by
  obtain ⟨rs, ρ1, e1, q1, c1⟩ := ha ρ q
  obtain ⟨ρ2, e2, c2⟩ := frzA_k q1 hr c1
  refine ⟨.fz res, ρ2.set i (.ow d'), ?_, rfl, c2.set i rfl⟩
  unfold dMut
  simp only [q.own hi, hc, if_true]
  rw [bd_eq e1, bd_eq e2]
  simp only [c2.own hi1, hg]⟩
/-- x += v -/
theorem sg_aug {g : G2} (hi : E[i]? = some (.fz da)) (he : Ev E fe k d E1) (hg : g da d = some (.fz dn)) (h : Sg (E1.set i (.fz dn)) rest P v) (hl : i < E1.length := by first | decide | exact of_decide_eq_true rfl) : Sg E (dSeq (dAug g i fe) rest) P v := fun ρ q => by
  obtain ⟨r, ρ1, e1, q1, c1⟩ := he.2 ρ q
  have e5 : bd fe look ρ = .ok d ρ1 := by rw [bd_eq e1]; exact look_k q1 he.1 c1
  have hl' : i < ρ1.length := by rw [← c1.len]; exact hl
  rw [seq_nx (ρ1 := ρ1.set i (.fz dn)) (by unfold dAug; simp only [q.good hi, e5, hg]; rw [if_pos hl'])]
  exact h _ (c1.set i rfl)
/-! dicts told in full -/
def Eps (E : List Ms) (ps : List (M Rs × M Rs)) (kks : List Key) (ks : List Kd) (ds : List D) (E' : List Ms) : Prop := ∀ ρ, Ec E ρ → ∃ rs ρ', dPairs ps ρ = .ok (kks.zip rs) ρ' ∧ rs.length = kks.length ∧ KrA ks ds rs ∧ Ec E' ρ'
theorem eps_nil : Eps E [] [] [] [] E := fun ρ e => ⟨[], ρ, rfl, rfl, trivial, e⟩
theorem eps_cons {ps : List (M Rs × M Rs)} {kks : List Key} {kk : Key} (hk : Ev E fi kb dc E1) (hkey : keyOf dc = some kk) (he : Ev E1 fe k d E2) (h : Eps E2 ps kks ks ds E3) : Eps E ((fi, fe) :: ps) (kk :: kks) (k :: ks) (d :: ds) E3 := fun ρ q => by
  obtain ⟨rk, ρ1, e1, q1, c1⟩ := hk.2 ρ q
  have e4 : dKey fi ρ = .ok kk ρ1 := by unfold dKey; rw [bd_eq e1, bd_eq (look_k q1 hk.1 c1)]; exact opt_eq hkey
  obtain ⟨r, ρ2, e2, q2, c2⟩ := he.2 ρ1 c1
  obtain ⟨rs, ρ3, e3, e5, q3, c3⟩ := h ρ2 c2
  exact ⟨r :: rs, ρ3, by unfold dPairs; rw [bd_eq e4, bd_eq e2, bd_eq e3]; rfl, by simp [e5], ⟨q2, q3⟩, c3⟩
theorem zip_1 : ∀ {kks : List Key} {rs : List Rs}, rs.length = kks.length → (kks.zip rs).map (·.1) = kks ∧ (kks.zip rs).map (·.2) = rs
  | [], [], _ => ⟨rfl, rfl⟩
  | [], _ :: _, h => by simp at h
  | _ :: _, [], h => by simp at h
  | _ :: _, _ :: _, h => by
    obtain ⟨h1, h2⟩ := zip_1 (by simpa using h)
    exact ⟨by rw [List.zip_cons_cons, List.map_cons, h1], by rw [List.zip_cons_cons, List.map_cons, h2]⟩
theorem ev_disp {ps : List (M Rs × M Rs)} {kks : List Key} {kvs : List (D × D)} (h : Eps E ps kks ks ds E1) (hr : RdkA ks ds E1) (hd : (kks.zip ds).foldl (fun acc kv => dput kv.1 kv.2 acc) [] = kvs) (hl : kks.length ≤ 15 := by decide) : Ev E (dDisp ps) .new (.dict kvs) (frzEA ks ds E1) := ⟨trivial, fun ρ q => by
  obtain ⟨rs, ρ1, e1, l1, q1, c1⟩ := h ρ q
  obtain ⟨ρ2, e2, c2⟩ := frzA_k q1 hr c1
  obtain ⟨z1, z2⟩ := zip_1 l1
  refine ⟨_, ρ2, ?_, rfl, c2⟩
  unfold dDisp
  rw [bd_eq e1]
  simp only [z1, z2]
  rw [bd_eq e2, if_pos (by rw [List.length_zip, l1]; simpa using hl), hd]; rfl⟩
/-! slices, ranges as lists, times -/
def Ep (E : List Ms) (p : M (Option Int)) (o : Option Int) (E' : List Ms) : Prop := ∀ ρ, Ec E ρ → ∃ ρ', p ρ = .ok o ρ' ∧ Ec E' ρ'
theorem ep_no : Ep E dNoP none E := fun ρ q => ⟨ρ, rfl, q⟩
theorem ep_part {n : Int} (ha : Ev E a k (.int n) E1) : Ep E (dPart a) (some n) E1 := fun ρ q => by
  obtain ⟨r, ρ1, e1, q1, c1⟩ := ha.2 ρ q
  refine ⟨ρ1, ?_, c1⟩
  unfold dPart
  rw [bd_eq e1, bd_eq (look_k q1 ha.1 c1)]; rfl
theorem ev_sl {lo hi : M (Option Int)} {ol oh : Option Int} {r : Rs} (ha : Ev E a k d E1) (h1 : Ep E1 lo ol E2) (h2 : Ep E2 hi oh E3) (hg : gSl d ol oh = some r) (hk : Rk r kb d') (hr : Rdk k d E3 := by repeat (first | exact True.intro | exact rfl | apply And.intro)) : Ev E (dSl a lo hi) kb d' E3 := ⟨hk.kr.2 _, fun ρ q => by
  obtain ⟨ra, ρ1, e1, q1, c1⟩ := ha.2 ρ q
  obtain ⟨ρ2, e2, c2⟩ := h1 ρ1 c1
  obtain ⟨ρ3, e3, c3⟩ := h2 ρ2 c2
  refine ⟨r, ρ3, ?_, hk.kr.1, c3⟩
  unfold dSl
  rw [bd_eq e1, bd_eq e2, bd_eq e3, bd_eq (look_k q1 hr c3)]
  exact opt_eq hg⟩
end
end TL
/-! TL6: encoders, typed operations -/
namespace TL
open PySem L2 DL
abbrev OkS := { x : Str // PyData.strOk x = true }
abbrev eI : Int → D := PyData.int
abbrev eN (k : Nat) : D := .int (k : Int)
abbrev eB : Bool → D := PyData.bool
abbrev eS (x : OkS) : D := .str x.1
abbrev eU (_ : Unit) : D := .none
abbrev eL {α : Type} (e : α → D) (xs : List α) : D := .list (xs.map e)
abbrev eT {α : Type} (e : α → D) (xs : List α) : D := .tuple (xs.map e)
abbrev e1 {α : Type} (a : α → D) (p : α) : D := .tuple [a p]
abbrev e2 {α β : Type} (a : α → D) (b : β → D) (p : α × β) : D := .tuple [a p.1, b p.2]
abbrev e3 {α β γ : Type} (a : α → D) (b : β → D) (c : γ → D) (p : α × β × γ) : D := .tuple [a p.1, b p.2.1, c p.2.2]
abbrev e4 {α β γ δ : Type} (a : α → D) (b : β → D) (c : γ → D) (d : δ → D) (p : α × β × γ × δ) : D := .tuple [a p.1, b p.2.1, c p.2.2.1, d p.2.2.2]
abbrev e5 {α β γ δ ε : Type} (a : α → D) (b : β → D) (c : γ → D) (d : δ → D) (e : ε → D) (p : α × β × γ × δ × ε) : D := .tuple [a p.1, b p.2.1, c p.2.2.1, d p.2.2.2.1, e p.2.2.2.2]
abbrev e6 {α β γ δ ε ζ : Type} (a : α → D) (b : β → D) (c : γ → D) (d : δ → D) (e : ε → D) (f : ζ → D) (p : α × β × γ × δ × ε × ζ) : D := .tuple [a p.1, b p.2.1, c p.2.2.1, d p.2.2.2.1, e p.2.2.2.2.1, f p.2.2.2.2.2]
def eO {α : Type} (e : α → D) : Option α → D
  | none => .none
  | some a => e a
def okS (x : Str) (h : PyData.strOk x = true := by decide +kernel) : OkS := ⟨x, h⟩
/-- equality of data is equality of values; data of a depth -/
structure Gd {α : Type} [DecidableEq α] (n : Nat) (enc : α → D) : Prop where
  e : EqE enc
  f : ∀ a, fine n (enc a)
section
variable {α β γ δ ε : Type} [DecidableEq α] [DecidableEq β] [DecidableEq γ] [DecidableEq δ] [DecidableEq ε] {n : Nat} {ea : α → D} {eb : β → D} {ec : γ → D} {ed : δ → D} {ee : ε → D}
theorem gd_int : Gd n eI := ⟨eqE_int, fun _ => fine_i⟩
theorem gd_str : Gd n eS := ⟨fun a b => by
  show PyData.eqv (.str a.1) (.str b.1) = _
  rw [eqv_s]
  exact decide_eq_decide.mpr Subtype.ext_iff.symm, fun a => fine_s a.2⟩
theorem gd_list (h : Gd n ea) : Gd (n + 1) (eL ea) := ⟨eqE_lst h.e, fun _ => fine_lm fun x _ => h.f x⟩
theorem gd_2 (ha : Gd n ea) (hb : Gd n eb) : Gd (n + 1) (e2 ea eb) := ⟨eqE_pair ha.e hb.e, fun p => fine_t fun d hd => by
  simp at hd; rcases hd with z | z <;> subst z
  · exact ha.f _
  · exact hb.f _⟩
theorem eqv_n1 : PyData.eqv .none .none = true := by simp only [PyData.eqv]
theorem eqv_nx {d : D} (h : isNone d = false) : PyData.eqv .none d = false := by cases d <;> first | (exact absurd h (by decide)) | (simp only [PyData.eqv]; done) | rfl
theorem eqv_xn {d : D} (h : isNone d = false) : PyData.eqv d .none = false := by cases d <;> first | (exact absurd h (by decide)) | (simp only [PyData.eqv]; done) | rfl
theorem gd_opt (h : Gd n ea) (hn : ∀ a, isNone (ea a) = false) : Gd n (eO ea) := ⟨fun x y => by
  cases x <;> cases y
  · show PyData.eqv .none .none = _; rw [eqv_n1]; rfl
  · rename_i a; show PyData.eqv .none (ea a) = _; rw [eqv_nx (hn a)]; rfl
  · rename_i a; show PyData.eqv (ea a) .none = _; rw [eqv_xn (hn a)]; rfl
  · rename_i a b; show PyData.eqv (ea a) (ea b) = _; rw [h.e]; exact decide_eq_decide.mpr (by simp), fun x => by
  cases x
  · exact fine_n
  · exact h.f _⟩
theorem Gd.le {m : Nat} (h : Gd n ea) (hm : n ≤ m) : Gd m ea := ⟨h.e, fun a => fine_le (h.f a) hm⟩
/-! comparisons -/
theorem dec_any {p : Prop} (i j : Decidable p) : @decide p i = @decide p j := by rw [Subsingleton.elim i j]
theorem gEq_g (h : Gd n ea) (hn : n ≤ 62 := by decide) {a b : α} {i : Decidable (a = b)} : gEq (ea a) (ea b) = some (@decide (a = b) i) := (gEq_e h.e (by omega) (h.f a) (h.f b)).trans (congrArg some (dec_any _ _))
theorem gNe_g (h : Gd n ea) (hn : n ≤ 62 := by decide) {a b : α} {i : Decidable (a = b)} : gNe (ea a) (ea b) = some (!@decide (a = b) i) := gNe_of (gEq_g h hn)
theorem gIn_gl (h : Gd n ea) (hn : n ≤ 62 := by decide) {a : α} {xs : List α} {i : Decidable (a ∈ xs)} : gIn (ea a) (.list (xs.map ea)) = some (@decide (a ∈ xs) i) := (gIn_l h.e (n := n) (by omega) (h.f a) fun x _ => h.f x).trans (congrArg some (dec_any _ _))
theorem gNotIn_gl (h : Gd n ea) (hn : n ≤ 62 := by decide) {a : α} {xs : List α} {i : Decidable (a ∈ xs)} : gNotIn (ea a) (.list (xs.map ea)) = some (!@decide (a ∈ xs) i) := gNotIn_of (gIn_gl h hn)
end
section
variable {i j : Int} {k l : Nat}
theorem gEq_nn : gEq (.int (k : Nat)) (.int (l : Nat)) = some (decide (k = l)) := by rw [gEq_ii]; exact congrArg some (decide_eq_decide.mpr (by omega))
theorem gLt_nn : gLt (.int (k : Nat)) (.int (l : Nat)) = some (decide (k < l)) := by rw [gLt_ii]; exact congrArg some (decide_eq_decide.mpr (by omega))
theorem gGt_nn : gGt (.int (k : Nat)) (.int (l : Nat)) = some (decide (l < k)) := by rw [gGt_ii]; exact congrArg some (decide_eq_decide.mpr (by omega))
end
section
variable {E E1 E2 E3 : List Ms} {a b : M Rs} {k ka kb : Kd} {d d' da db : D} {f : M (List Rs)} {ks : List Kd} {ds : List D}
theorem ev_op2v {g : G2} (ha : Ev E a ka da E1) (hb : Ev E1 b kb db E2) (hg : g da db = some (.fz d)) (hr : Rdk ka da E2 := by repeat (first | exact True.intro | exact rfl | apply And.intro)) : Ev E (dOp2 g a b) .val d E2 := ev_op2 (r := .fz d) ha hb hg rfl hr
theorem ev_op2o {g : G2} (ha : Ev E a ka da E1) (hb : Ev E1 b kb db E2) (hg : g da db = some (.ow d)) (hr : Rdk ka da E2 := by repeat (first | exact True.intro | exact rfl | apply And.intro)) : Ev E (dOp2 g a b) .new d E2 := ev_op2 (r := .ow d) ha hb hg rfl hr
theorem ev_B1v {g : List D → Option Rs} (ha : Ev E a ka da E1) (hg : g [da] = some (.fz d)) : Ev E (dB g (dCons a dNil)) .val d E1 := ev_B1 (r := .fz d) ha hg rfl
theorem ev_B1o {g : List D → Option Rs} (ha : Ev E a ka da E1) (hg : g [da] = some (.ow d)) : Ev E (dB g (dCons a dNil)) .new d E1 := ev_B1 (r := .ow d) ha hg rfl
theorem ev_slv {lo hi : M (Option Int)} {ol oh : Option Int} (ha : Ev E a k d E1) (h1 : Ep E1 lo ol E2) (h2 : Ep E2 hi oh E3) (hg : gSl d ol oh = some (.fz d')) (hr : Rdk k d E3 := by repeat (first | exact True.intro | exact rfl | apply And.intro)) : Ev E (dSl a lo hi) .val d' E3 := ev_sl (r := .fz d') ha h1 h2 hg rfl hr
end
/-! operations -/
section
variable {E E1 E2 E3 : List Ms} {m a b c e fi fe : M Rs} {k ka kb kc : Kd} {x y : Int} {p q : Nat} {α β : Type} {enc : α → D} {xs ys : List α}
theorem ev_addI (ha : Ev E a ka (.int x) E1) (hb : Ev E1 b kb (.int y) E2) (hr : Rdk ka (.int x) E2 := by repeat (first | exact True.intro | exact rfl | apply And.intro)) : Ev E (dOp2 gAdd a b) .val (.int (x + y)) E2 := ev_op2v ha hb gAdd_ii hr
theorem ev_addN (ha : Ev E a ka (.int (p : Nat)) E1) (hb : Ev E1 b kb (.int (q : Nat)) E2) (hr : Rdk ka (.int (p : Nat)) E2 := by repeat (first | exact True.intro | exact rfl | apply And.intro)) : Ev E (dOp2 gAdd a b) .val (.int ((p + q : Nat) : Int)) E2 := (ev_op2v ha hb gAdd_ii hr).eq (by rw [Int.natCast_add])
theorem ev_addL (ha : Ev E a ka (.list (xs.map enc)) E1) (hb : Ev E1 b kb (.list (ys.map enc)) E2) (h : xs.length + ys.length ≤ 16777216) (hr : Rdk ka (.list (xs.map enc)) E2 := by repeat (first | exact True.intro | exact rfl | apply And.intro)) : Ev E (dOp2 gAdd a b) .new (.list ((xs ++ ys).map enc)) E2 := (ev_op2o ha hb (gAdd_ll (by rw [List.length_map, List.length_map, sizeLine_eq]; exact h)) hr).eq (by rw [List.map_append])
theorem ev_lenL (ha : Ev E a k (.list (xs.map enc)) E1) : Ev E (dB gLen (dCons a dNil)) .val (.int (xs.length : Nat)) E1 := (ev_B1v ha gLen_l).eq (by rw [List.length_map])
theorem ev_tupL (ha : Ev E a k (.list (xs.map enc)) E1) : Ev E (dB gTuple (dCons a dNil)) .val (.tuple (xs.map enc)) E1 := ev_B1v ha gTuple_l
theorem ev_maxL {ns : List Int} (ha : Ev E a k (.list (ns.map .int)) E1) (h : ns ≠ []) : Ev E (dB gMax (dCons a dNil)) .val (.int (maxL ns)) E1 := ev_B1v ha (gMax_l h)
/-! items -/
theorem getD_lt {k : Nat} (h : k < xs.length) (df : α) : xs.getD k df = xs[k] := by rw [List.getD_eq_getElem?_getD, List.getElem?_eq_getElem h]; rfl
theorem ev_ixLN (df : α) (ha : Ev E a ka (.list (xs.map enc)) E1) (hb : Ev E1 b kb (.int (p : Nat)) E2) (h : p < xs.length) (hr : Rdk ka (.list (xs.map enc)) E2 := by repeat (first | exact True.intro | exact rfl | apply And.intro)) : Ev E (dOp2 gIx a b) .val (enc (xs.getD p df)) E2 := (ev_op2v ha hb (gIx_lm h) hr).eq (by rw [getD_lt h])
theorem ev_ixLI (df : α) (ha : Ev E a ka (.list (xs.map enc)) E1) (hb : Ev E1 b kb (.int x) E2) (h0 : 0 ≤ x) (h : x.toNat < xs.length) (hr : Rdk ka (.list (xs.map enc)) E2 := by repeat (first | exact True.intro | exact rfl | apply And.intro)) : Ev E (dOp2 gIx a b) .val (enc (xs.getD x.toNat df)) E2 := ev_ixLN df ha (hb.eq (by rw [Int.toNat_of_nonneg h0])) h hr
/-- an item of a tuple of a told shape -/
theorem ev_ixC {d d' : D} {i : Int} (ha : Ev E a ka d E1) (hg : gIx d (.int i) = some (.fz d')) (hr : Rdk ka d E1 := by repeat (first | exact True.intro | exact rfl | apply And.intro)) : Ev E (dOp2 gIx a (dC (.int i))) .val d' E1 := ev_op2v ha ev_C hg hr
/-! slices -/
end
/-! ranges -/
section
variable {E E1 E2 : List Ms} {a b e eb : M Rs} {k ka kb : Kd} {n m : Nat}
theorem ew_rgN (ha : Ev E e k (.int (n : Nat)) E1) (h : n ≤ 1000000000) : Ew E (dRng1 (dCons e dNil)) ((List.range n).map eN) .no E1 := by
  have := ew_rng1 ha (by omega) (by omega)
  rwa [Int.toNat_natCast] at this
/-- a range of integers that may be less than none -/
theorem ew_rgI {x : Int} (ha : Ev E e k (.int x) E1) (h1 : -1000000000 ≤ x) (h2 : x ≤ 1000000000) : Ew E (dRng1 (dCons e dNil)) ((List.range x.toNat).map eN) .no E1 := ew_rng1 ha (by omega) (by omega)
end
end TL
/-! TL7: dicts, stores at items, draws, ends of the law -/
namespace TL
open PySem L2 DL
section
variable {E E1 E2 E3 : List Ms} {m a b c e fi fe : M Rs} {k ka kb kc : Kd} {x y : Int} {p q : Nat} {α β : Type} {enc : α → D} {xs ys : List α} {d : D} {i j : Nat}
/-! append, extend, pop -/
theorem ev_app {x : α} (hi : E[i]? = some (.ow (.list (xs.map enc)))) (ha : Ev E a k (enc x) E1) (hi1 : (frzE k (enc x) E1)[i]? = some (.ow (.list (xs.map enc)))) (hl : xs.length < 16777216) :
    Ev E (dMut i isLst true gAppend (dCons a dNil)) .val .none ((frzE k (enc x) E1).set i (.ow (.list ((xs ++ [x]).map enc)))) :=
  ev_mut (d' := .list ((xs ++ [x]).map enc)) (res := .none) (d1 := .list (xs.map enc)) hi rfl (ea_cons ha ea_nil) ⟨ha.1, trivial⟩ hi1 (by rw [gAppend_l (by rw [List.length_map, sizeLine_eq]; exact hl), List.map_append]; rfl)
/-! draws -/
theorem ev_sp {f : M Rs} {ins outs : List Ms} {r : Rs} {k : Kd} (h : ∀ ρ, Ec ins ρ → ∃ ρ', f ρ = .ok r ρ' ∧ Ec outs ρ') (hk : Rk r k d) : Ev ins f k d outs := ⟨hk.kr.2 _, fun ρ e => by
  obtain ⟨ρ', e1, c1⟩ := h ρ e
  exact ⟨r, ρ', e1, hk.kr.1, c1⟩⟩
theorem ec_2 {m n : Ms} {ρ : List Sl} (h : Ec [m, n] ρ) : ∃ s t, ρ = [s, t] ∧ Mo m s ∧ Mo n t := by
  match ρ, h with
  | [s, t], h => exact ⟨s, t, rfl, h.1, h.2.1⟩
  | [_], h => exact h.2.elim
  | _ :: _ :: _ :: _, h => exact h.2.2.elim
theorem tv_next (ds : List Int) (i : Nat) (m : Int) (hm : 0 < m) : Ev [.ow (Wd ds i), .fz (.int m)] nextF .val (.int (nx ds i m)) [.ow (Wd ds (i + 1 : Nat)), .fz (.int m)] := ev_sp (r := .fz (.int (nx ds i m))) (fun ρ e => by
  obtain ⟨s, t, rfl, h1, h2⟩ := ec_2 e
  have h1 : s = .ow (Wd ds i) := h1
  have h2 : t = .fz (.int m) := h2
  subst h1; subst h2
  exact ⟨_, next_ok' hm, rfl, rfl, trivial⟩) rfl
/-- what a pick gives -/
def pkT (ds : List Int) (i : Nat) (xs : List α) (df : α) : α := xs.getD (nx ds i xs.length).toNat df
theorem pkT_mem {ds : List Int} {i : Nat} {df : α} (h : xs ≠ []) : pkT ds i xs df ∈ xs := by
  have hl : 0 < xs.length := List.length_pos_iff.mpr h
  have h1 := nx_lt (ds := ds) (i := i) (m := (xs.length : Nat)) (by omega)
  have h2 := nx_nonneg (ds := ds) (i := i) (m := (xs.length : Nat)) (by omega)
  unfold pkT
  rw [getD_lt (by omega)]; exact List.getElem_mem _
theorem tv_pickL (df : α) (ds : List Int) (i : Nat) (xs : List α) (enc : α → D) (h : xs ≠ []) : Ev [.ow (Wd ds i), .rd (.list (xs.map enc))] pickF .val (enc (pkT ds i xs df)) [.ow (Wd ds (i + 1 : Nat)), .rd (.list (xs.map enc))] := by
  have hl : 0 < xs.length := List.length_pos_iff.mpr h
  have h1 := nx_lt (ds := ds) (i := i) (m := (xs.length : Nat)) (by omega)
  have h2 := nx_nonneg (ds := ds) (i := i) (m := (xs.length : Nat)) (by omega)
  refine ev_run (n := 2) (outs := fun _ => [.ow (Wd ds (i + 1 : Nat)), .rd (.list (xs.map enc))]) (ms := [true, true]) (sg_last (sg_ret (v := pkT ds i xs df) (ev_ixLI df (ev_rd (i := 1) rfl) (ev_call (tv_next ds i (xs.length : Nat) (by omega)) (ea_cons (ev_ow (i := 0) rfl) (ea_cons (ev_lenL (ev_rd (i := 1) rfl)) ea_nil)) rdT) h2 (by omega)) leT roT))
end
end TL
/-! TL8: more typed operations, the tactic of side conditions -/
namespace TL
open PySem L2 DL
def dS0 : OkS := okS ""
theorem mapS_len {α β σ : Type} {f : σ → α → β × σ} : ∀ (xs : List α) (s : σ), (mapS f s xs).1.length = xs.length
  | [], s => rfl
  | x :: xs, s => by
    show (_ :: (mapS f (f s x).2 xs).1).length = _
    rw [List.length_cons, List.length_cons, mapS_len xs]
theorem scT {p : Prop} (h : p := by first
  | omega
  | assumption
  | (simp only [List.mem_range, List.mem_range'_1, List.length_map, List.length_append, List.length_cons, List.length_nil, List.length_range, List.length_range', List.length_set, List.length_reverse, List.length_replicate, mapS_len]; omega)
  | (simp only [List.mem_range, List.mem_range'_1, List.length_map, List.length_append, List.length_cons, List.length_nil, List.length_range, List.length_range', List.length_set, List.length_reverse, List.length_replicate, mapS_len] at *; omega)
  | (simp; done)
  | (simp_all; done)
  | (simp_all; omega)
  | fail "SC") : p := h
theorem map_id_e {α : Type} (enc : α → D) (xs : List α) : PyData.list ((xs.map fun x => x).map enc) = PyData.list (xs.map enc) := by rw [List.map_id']
section
variable {E E1 E2 E3 : List Ms} {m a b c e : M Rs} {k ka kb kc : Kd} {x y : Int} {p q : Nat} {α β : Type} {enc : α → D} {xs ys : List α} {d d' : D}
theorem eI_toNat (h : 0 ≤ x) : PyData.int x = PyData.int ((x.toNat : Nat) : Int) := by rw [Int.toNat_of_nonneg h]
theorem gIAdd_nn : gIAdd (.int (p : Nat)) (.int (q : Nat)) = some (.fz (.int ((p + q : Nat) : Int))) := by rw [gIAdd_ii, Int.natCast_add]
/-! sorted -/
end
end TL
/-! TL9: the law's own def: ways that are known, states that are there, draws, comparers -/
namespace TL
open PySem L2 DL
section
variable {E E1 E2 E3 : List Ms} {m a b c e : M Rs} {k ka kb kc : Kd} {d da db dc : D} {i j : Nat} {f : M (List Rs)} {ks : List Kd} {ds : List D} {τ : Type} {P : τ → SR → Prop} {rest s s1 s2 body : DS} {v x y : τ} {li : Lki} {l : Option Nat} {ρ ρ1 ρ2 : List Sl}
theorem sg_gen0 {α : Type} (Ef : α → List Ms) {x : α} (h : ∀ y, y = x → Sg (Ef y) s P v) : Sg (Ef x) s P v := h x rfl
theorem sg_join0 {σ : Type} {t : M Bool} {p : Bool} (Eσ : σ → List Ms) {w z : σ} (ht : Tj E t p E1) (h1 : p = true → Sg E1 s1 (Pj Eσ) w) (h2 : p = false → Sg E1 s2 (Pj Eσ) z)
    (h : ∀ q, q = (if p = true then w else z) → Sg (Eσ q) rest P v) : Sg E (dSeq (dIf t s1 s2) rest) P v := sg_join (o := fun _ => v) Eσ ht h1 h2 h
theorem sg_for0 {α σ : Type} {w : M Wk} {g : DG} (enc : α → D) {xs : List α} (Eσ : σ → List Ms) {s0 : σ} {step : σ → α → σ} (I : Nat → σ → Prop)
    (hw : Ew E w (xs.map enc) li E1) (h0 : Le E1 (Eσ s0)) (i0 : I 0 s0)
    (hb : ∀ k x s, xs[k]? = some x → I k s → ∃ E2, Tg g (enc x) (Eσ s) E2 ∧ Sg E2 body (Pn Eσ) (step s x)) (hi : ∀ k x s, xs[k]? = some x → I k s → I (k + 1) (step s x))
    (hr : ∀ s, s = xs.foldl step s0 → I xs.length s → Sg (unlE li (Eσ s)) rest P v) : Sg E (dSeq (dFor w g body) rest) P v := sg_for (o := fun _ => v) enc Eσ I hw h0 i0 hb hi hr
/-- a state that is there -/
def Px {σ : Type} (Eσ : σ → List Ms) (I : σ → Prop) : Unit → SR → Prop := fun _ o => ∃ s, I s ∧ match o with
  | .nx ρ => Ec (Eσ s) ρ
  | .ct ρ => Ec (Eσ s) ρ
  | _ => False
theorem sg_passX {σ : Type} {Eσ : σ → List Ms} {I : σ → Prop} (w : σ) (hI : I w) (h : Le E (Eσ w)) : Sg E dPass (Px Eσ I) () := fun ρ e => ⟨w, hI, h.ec e⟩
theorem for_x {α σ : Type} {g : DG} {enc : α → D} {Eσ : σ → List Ms} {I : Nat → σ → Prop} {xs : List α}
    (hb : ∀ k x s, xs[k]? = some x → I k s → ∃ E2, Tg g (enc x) (Eσ s) E2 ∧ Sg E2 body (Px Eσ (I (k + 1))) ()) :
    ∀ (ys : List α) (k : Nat) (s : σ) (ρ : List Sl), xs.drop k = ys → I k s → Ec (Eσ s) ρ → ∃ ρ' s', forGo g body (ys.map enc) ρ = .nx ρ' ∧ Ec (Eσ s') ρ' ∧ I (k + ys.length) s'
  | [], k, s, ρ, _, hI, e => ⟨ρ, s, rfl, e, hI⟩
  | y :: ys, k, s, ρ, hd, hI, e => by
    have hx : xs[k]? = some y := by
      have := congrArg (fun l => l[0]?) hd
      simpa using this
    have hd' : xs.drop (k + 1) = ys := by
      have := congrArg (List.drop 1) hd
      simpa using this
    obtain ⟨E2, h1, h2⟩ := hb k y s hx hI
    obtain ⟨ρ1, e1, c1⟩ := h1 ρ e
    obtain ⟨s', i', q⟩ := h2 ρ1 c1
    have fin : ∀ ρ2, Ec (Eσ s') ρ2 → ∃ ρ' s', forGo g body (ys.map enc) ρ2 = .nx ρ' ∧ Ec (Eσ s') ρ' ∧ I (k + (y :: ys).length) s' := fun ρ2 c2 => by
      obtain ⟨ρ3, s3, e3, c3, i3⟩ := for_x hb ys (k + 1) s' ρ2 hd' i' c2
      exact ⟨ρ3, s3, e3, c3, by rw [List.length_cons, show k + (ys.length + 1) = k + 1 + ys.length by omega]; exact i3⟩
    rw [List.map_cons]
    unfold forGo
    simp only [e1]
    cases eb : body ρ1 with
    | nx ρ2 => rw [eb] at q; exact fin ρ2 q
    | ct ρ2 => rw [eb] at q; exact fin ρ2 q
    | _ => rw [eb] at q; exact q.elim
theorem sg_forX {α σ : Type} {w : M Wk} {g : DG} (enc : α → D) {xs : List α} (Eσ : σ → List Ms) (s0 : σ) (I : Nat → σ → Prop)
    (hw : Ew E w (xs.map enc) li E1) (h0 : Le E1 (Eσ s0)) (i0 : I 0 s0)
    (hb : ∀ k x s, xs[k]? = some x → I k s → ∃ E2, Tg g (enc x) (Eσ s) E2 ∧ Sg E2 body (Px Eσ (I (k + 1))) ())
    (hr : ∀ s, I xs.length s → Sg (unlE li (Eσ s)) rest P v) : Sg E (dSeq (dFor w g body) rest) P v := fun ρ e => by
  obtain ⟨l, ρ1, e1, hl, c1⟩ := hw ρ e
  obtain ⟨ρ2, s2, e2, c2, i2⟩ := for_x hb xs 0 s0 ρ1 rfl i0 (h0.ec c1)
  rw [seq_nx (ρ1 := unl l ρ2) (by unfold dFor; rw [e1]; simp only [e2]; rfl)]
  exact hr s2 (by simpa using i2) _ (unl_k hl c2)
/-! draws -/
theorem ev_draws {script : List Int} (hs : script.length ≤ 63) {many : Nat} (hm : many ≤ 100000) (h : E[i]? = some (.fz (eL eI script))) :
    ∃ ds : List Int, Ev E (dCall [true, true] drawsF (dCons (dVar i) (dCons (dC (.int many)) dNil))) .new (.list (ds.map .int)) E := by
  obtain ⟨ds, hds⟩ := draws_ok script hs many hm
  refine ⟨ds, ?_⟩
  have sp : Ev [.fz (eL eI script), .fz (.int many)] drawsF .new (.list (ds.map .int)) [.fz (eL eI script), .fz (.int many)] := ev_sp (r := .ow (.list (ds.map .int))) (fun ρ e => by
    obtain ⟨s, t, rfl, h1, h2⟩ := ec_2 e
    have h1 : s = .fz (eL eI script) := h1
    have h2 : t = .fz (.int many) := h2
    subst h1; subst h2
    exact ⟨_, hds, e⟩) rfl
  exact ev_call sp (ea_cons (ev_fz h) (ea_cons ev_C ea_nil)) ⟨rfl, rfl, trivial⟩
theorem sg_w {script : List Int} (hs : script.length ≤ 63) {many : Int} (hm : 0 ≤ many ∧ many ≤ 100000) (h : E[i]? = some (.fz (eL eI script))) (hj : j < E.length) (hr : ∀ ds : List Int, Sg (E.set j (.ow (Wd ds (0 : Nat)))) rest P v) :
    Sg E (dSeq (dSet j (dDisp [(dC (.str "draws"), dCall [true, true] drawsF (dCons (dVar i) (dCons (dC (.int many)) dNil))), (dC (.str "at"), dC (.int 0))])) rest) P v := by
  obtain ⟨ds, hd⟩ := ev_draws (E := E) (i := i) hs (many := many.toNat) (by omega) h
  rw [show ((many.toNat : Nat) : Int) = many by omega] at hd
  refine sg_set (d := Wd ds (0 : Nat)) (ev_disp (eps_cons ev_C rfl hd (eps_cons ev_C rfl (ev_C (d := .int 0)) eps_nil)) ⟨trivial, trivial, trivial⟩ rfl) (hr ds) hj
/-! comparers -/
/-! the end -/
theorem law_of {f : M Rs} (h : ∀ script : List Int, script.length ≤ 63 → ∃ E', Ev [.fz (eL eI script)] f .val (eB true) E') : LawOk f := fun script hs => by
  obtain ⟨E', _, h⟩ := h script hs
  obtain ⟨r, ρ', e, q, _⟩ := h [.fz (.list (script.map .int))] ⟨rfl, trivial⟩
  have q : r = .fz (.bool true) := q
  subst q
  exact ⟨ρ', e⟩
end
end TL
namespace TL
end TL
namespace TL
theorem lt_of_get {α : Type} {xs : List α} {k : Nat} {x : α} (h : xs[k]? = some x) : k < xs.length := (List.getElem?_eq_some_iff.mp h).1
end TL
/-! TL10: from equations; choices that are handed on; states of draws -/
namespace TL
open PySem L2 DL
section
variable {E E1 : List Ms} {a : M Rs} {k : Kd}
theorem ea_consO {f : M (List Rs)} {ks : List Kd} {ds : List D} {i : Nat} {d d0 : D} (h : E[i]? = some (.ow d0)) (hf : Ea E f ks ds E1) : Ea E (dCons (dVar i) f) (.own i :: ks) (d :: ds) E1 := fun ρ e => by
  obtain ⟨r, ρ1, e1, q1, c1⟩ := (ev_ow h).2 ρ e
  obtain ⟨rs, ρ2, e2, q2, c2⟩ := hf ρ1 c1
  exact ⟨r :: rs, ρ2, by unfold dCons; rw [bd_eq e1, bd_eq e2]; rfl, ⟨q1, q2⟩, c2⟩
end
end TL
/-! TL11: order of data by values; more rules -/
namespace TL
open PySem L2 DL
def isTupC : D → Prop
  | .tuple (_ :: _) => True
  | _ => False
def isAtom : D → Prop
  | .none => False
  | .tuple _ => False
  | _ => True
abbrev tks (d : D) : List (Int ⊕ List Nat) := PySem.W.keyToks d
/-- values whose data can be put in order -/
structure So {α : Type} (n : Nat) (enc : α → D) : Prop where
  al : ∀ a b, PySem.W.alike (enc a) (enc b) = true
  nd : ∀ a, noD (enc a) = true
  nn : ∀ a, isNone (enc a) = false
  dp : ∀ a, (enc a).depth ≤ n
  inj : ∀ a b l m, tks (enc a) ++ l = tks (enc b) ++ m → a = b ∧ l = m
section
variable {α β γ δ : Type} {n : Nat} {enc : α → D} {ea : α → D} {eb : β → D} {ec : γ → D} {ed : δ → D}
theorem So.le {m : Nat} (h : So n enc) (hm : n ≤ m) : So m enc := ⟨h.al, h.nd, h.nn, fun a => Nat.le_trans (h.dp a) hm, h.inj⟩
theorem so_int : So n eI := ⟨fun _ _ => by simp [PySem.W.alike], fun _ => by simp [noD], fun _ => rfl, fun _ => by simp [PyData.depth], fun a b l m h => by
  simp [tks, PySem.W.keyToks] at h; exact h⟩
theorem so_str : So n eS := ⟨fun _ _ => by simp [PySem.W.alike], fun _ => by simp [noD], fun _ => rfl, fun _ => by simp [PyData.depth], fun a b l m h => by
  simp only [tks, PySem.W.keyToks, List.cons_append, List.nil_append, List.cons.injEq, Sum.inr.injEq] at h
  exact ⟨Subtype.ext (PySem.W.str_of_cps h.1), h.2⟩⟩
theorem toksA_c {x : D} {xs : List D} : PySem.W.keyToksAll (x :: xs) = .inl 1 :: (tks x ++ PySem.W.keyToksAll xs) := by simp [PySem.W.keyToksAll]
theorem toksA_0 : PySem.W.keyToksAll [] = [.inl 0] := by simp [PySem.W.keyToksAll]
theorem tks_t {xs : List D} : tks (.tuple xs) = PySem.W.keyToksAll xs := by simp [tks, PySem.W.keyToks]
theorem alike_t {xs ys : List D} : PySem.W.alike (.tuple xs) (.tuple ys) = PySem.W.alikeAll xs ys := by simp [PySem.W.alike]
theorem alikeA_c {x y : D} {xs ys : List D} : PySem.W.alikeAll (x :: xs) (y :: ys) = (PySem.W.alike x y && PySem.W.alikeAll xs ys) := by simp [PySem.W.alikeAll]
theorem alikeA_0 : PySem.W.alikeAll [] [] = true := by simp [PySem.W.alikeAll]
theorem so_2 (ha : So n ea) (hb : So n eb) : So (n + 1) (e2 ea eb) := ⟨fun a b => by rw [alike_t, alikeA_c, alikeA_c, ha.al, hb.al, alikeA_0]; rfl, fun a => by simp [noD, noDA, ha.nd, hb.nd], fun _ => rfl,
  fun a => by have := ha.dp a.1; have := hb.dp a.2; simp [PyData.depth, PyData.depthAll]; omega, fun a b l m h => by
  rw [tks_t, tks_t, toksA_c, toksA_c, toksA_c, toksA_c, toksA_0] at h
  simp only [List.cons_append, List.append_assoc, List.cons.injEq, true_and] at h
  obtain ⟨h1, h⟩ := ha.inj _ _ _ _ h
  simp only [List.cons_append, List.append_assoc, List.cons.injEq, true_and] at h
  obtain ⟨h2, h⟩ := hb.inj _ _ _ _ h
  simp at h
  exact ⟨Prod.ext h1 h2, h⟩⟩
/-! the order -/
def leG (enc : α → D) (a b : α) : Bool := PySem.W.dataLe false id (enc a) (enc b)
def ltG (enc : α → D) (a b : α) : Bool := PySem.W.dataLt (enc a) (enc b)
def sortG (enc : α → D) (xs : List α) : List α := xs.mergeSort (leG enc)
theorem leG_lt {a b : α} : leG enc a b = !ltG enc b a := by unfold leG ltG; exact dataLe_D _ _
theorem sortG_perm (xs : List α) : (sortG enc xs).Perm xs := List.mergeSort_perm _ _
theorem sortG_mem {x : α} {xs : List α} : x ∈ sortG enc xs ↔ x ∈ xs := (sortG_perm xs).mem_iff
theorem sortG_len (xs : List α) : (sortG enc xs).length = xs.length := (sortG_perm xs).length_eq
theorem sortD_G (xs : List α) : sortD (xs.map enc) = (sortG enc xs).map enc := by
  unfold sortD sortG
  rw [List.map_mergeSort]
  intro a _ b _
  rfl
theorem sortOk_G (h : So n enc) (hn : n ≤ 60) (hk : (∀ a, isTupC (enc a)) ∨ ∀ a, isAtom (enc a)) {xs : List α} (hl : xs.length ≤ 16777216) : sortOk (xs.map enc) = true := by
  unfold sortOk
  simp only [Bool.and_eq_true, Bool.or_eq_true, List.all_eq_true, decide_eq_true_eq]
  refine ⟨⟨⟨⟨fun d hd e he => ?_, fun d hd => ?_⟩, ?_⟩, fun d hd => ?_⟩, by rw [List.length_map, sizeLine_eq]; exact hl⟩
  · obtain ⟨x, _, rfl⟩ := List.mem_map.mp hd
    obtain ⟨y, _, rfl⟩ := List.mem_map.mp he
    exact h.al x y
  · obtain ⟨x, _, rfl⟩ := List.mem_map.mp hd; exact h.nd x
  · rcases hk with hk | hk
    · refine .inl fun d hd => ?_
      obtain ⟨x, _, rfl⟩ := List.mem_map.mp hd
      have := hk x
      cases e : enc x with
      | tuple ds => rw [e] at this; cases ds with
        | nil => exact this.elim
        | cons _ _ => rfl
      | _ => rw [e] at this; exact this.elim
    · refine .inr fun d hd => ?_
      obtain ⟨x, _, rfl⟩ := List.mem_map.mp hd
      have := hk x
      cases e : enc x <;> rw [e] at this <;> first | rfl | exact this.elim
  · obtain ⟨x, _, rfl⟩ := List.mem_map.mp hd; have := h.dp x; omega
theorem cmpOk_G (h : So n enc) (hn : n ≤ 64) (a b : α) : cmpOk (enc a) (enc b) = true := by
  unfold cmpOk
  simp only [Bool.and_eq_true, Bool.not_eq_true', decide_eq_true_eq]
  exact ⟨⟨⟨⟨h.al a b, h.nn a⟩, h.nd a⟩, h.nd b⟩, Nat.le_trans (h.dp a) hn⟩
theorem gLt_if {x y : D} (h : cmpOk x y = true) (hi : ∀ i j, x = .int i → y = .int j → False) : gLt x y = some (PySem.W.dataLt x y) := by
  unfold gLt
  split
  · exact (hi _ _ rfl rfl).elim
  · exact if_pos h
theorem gGt_if {x y : D} (h : cmpOk x y = true) (hi : ∀ i j, x = .int i → y = .int j → False) : gGt x y = some (PySem.W.dataLt y x) := by
  unfold gGt
  split
  · exact (hi _ _ rfl rfl).elim
  · exact if_pos h
theorem gLe_if {x y : D} (h : cmpOk x y = true) (hi : ∀ i j, x = .int i → y = .int j → False) : gLe x y = some (!PySem.W.dataLt y x) := by
  unfold gLe
  split
  · exact (hi _ _ rfl rfl).elim
  · exact if_pos h
theorem gLt_G (h : So n enc) (hi : ∀ a i, enc a ≠ .int i) (hn : n ≤ 64 := by decide) {a b : α} : gLt (enc a) (enc b) = some (ltG enc a b) := gLt_if (cmpOk_G h hn a b) fun i _ e _ => hi _ _ e
theorem gGt_G (h : So n enc) (hi : ∀ a i, enc a ≠ .int i) (hn : n ≤ 64 := by decide) {a b : α} : gGt (enc a) (enc b) = some (ltG enc b a) := gGt_if (cmpOk_G h hn a b) fun i _ e _ => hi _ _ e
theorem gLe_G (h : So n enc) (hi : ∀ a i, enc a ≠ .int i) (hn : n ≤ 64 := by decide) {a b : α} : gLe (enc a) (enc b) = some (leG enc a b) := (gLe_if (cmpOk_G h hn a b) fun i _ e _ => hi _ _ e).trans (congrArg some leG_lt.symm)
end
section
variable {E E1 E2 E3 : List Ms} {m a b c e : M Rs} {k ka kb kc : Kd} {α β : Type} {enc : α → D} {xs ys : List α} {d d' : D} {n : Nat}
theorem ev_sGLX (h : So n enc) (hk : (∀ a, isTupC (enc a)) ∨ ∀ a, isAtom (enc a)) (ha : Ev E a k (.list (xs.map enc)) E1) (hl : xs.length ≤ 16777216) (hn : n ≤ 60 := by decide) : Ev E (dB gSortedX (dCons a dNil)) .new (.list ((sortG enc xs).map enc)) E1 := (ev_B1o ha (gSortedX_l (sortOk_G h hn hk hl))).eq (by rw [sortD_G])
/-! a choice where a state goes on -/
/-! comprehensions with a test and a state -/
/-! while, with ways out -/
end
end TL
/-! TL12: dicts of pairs, comparers by size, places from behind -/
namespace TL
open PySem L2 DL
end TL
/-! TL13: plain facts for the laws that follow -/
namespace TL
open PySem L2 DL
section
variable {α β σ γ : Type}
theorem getD_lt' {xs : List α} {a : Nat} (d : α) (h : a < xs.length) : xs.getD a d = xs[a] := by rw [List.getD_eq_getElem?_getD, List.getElem?_eq_getElem h]; rfl
theorem getD_mem' {xs : List α} {a : Nat} (d : α) (h : a < xs.length) : xs.getD a d ∈ xs := by rw [getD_lt' d h]; exact List.getElem_mem h
/-! dicts by text -/
/-! the order of texts -/
end
end TL
/-! TL14: list(dict) -/
namespace TL
open PySem L2 DL
end TL
/-! TL15: sorted(d.items()), insert, ranges down, draws in the test of a comprehension -/
namespace TL
open PySem L2 DL
section
variable {E E1 E2 E3 : List Ms} {m a b c e : M Rs} {k ka kb kc : Kd} {α β σ : Type} {enc : α → D} {xs ys : List α} {d d' : D} {i : Nat}
theorem tj_as {t : M Bool} {p : Bool} (E2 : List Ms) (ha : Tj E t p E1) (h : E1 = E2 := by rfl) : Tj E t p E2 := h ▸ ha
end
end TL
/-! TL16: dict.get, list(d.items()) -/
namespace TL
open PySem L2 DL
end TL
/-! TL17: results of two shapes, == with any data -/
namespace TL
open PySem L2 DL
theorem scQ {p : Prop} (h : p := by first
  | omega
  | assumption
  | (simp only [List.mem_range, List.mem_range'_1, List.length_map, List.length_append, List.length_cons, List.length_nil, List.length_range, List.length_range', List.length_set, List.length_reverse, List.length_replicate, mapS_len]; omega)
  | fail "SC") : p := h
end TL
namespace TL
open PySem L2 DL
end TL
/-! TL18: texts -/
namespace TL
open PySem L2 DL
abbrev chs (s : OkS) : List Nat := s.1.cps.toList
def okL (l : List Nat) : Bool := l.all fun c => decide (c < 0x110000)
theorem okL_ok {l : List Nat} (h : okL l = true) : PyData.strOk (⟨l.toArray⟩ : Str) = true := by
  unfold PyData.strOk
  rw [List.all_toArray]; exact h
theorem chs_ok (s : OkS) : okL (chs s) = true := by
  have h := s.2
  unfold PyData.strOk at h
  rw [← Array.all_toList] at h; exact h
def mkS (l : List Nat) : OkS := if h : okL l = true then ⟨⟨l.toArray⟩, okL_ok h⟩ else dS0
theorem mkS_val {l : List Nat} (h : okL l = true) : (mkS l).1 = (⟨l.toArray⟩ : Str) := by unfold mkS; rw [dif_pos h]
theorem mkS_chs {l : List Nat} (h : okL l = true) : chs (mkS l) = l := by unfold chs; rw [mkS_val h]
theorem chs_inj {s t : OkS} (h : chs s = chs t) : s = t := Subtype.ext (Str.ext' (Array.toList_inj.mp h))
theorem okL_iff {l : List Nat} : okL l = true ↔ ∀ c ∈ l, c < 0x110000 := by unfold okL; rw [List.all_eq_true]; simp
theorem okL_sub {l m : List Nat} (h : okL l = true) (hs : ∀ c ∈ m, c ∈ l) : okL m = true := okL_iff.mpr fun c hc => okL_iff.mp h c (hs c hc)
def slen (s : OkS) : Nat := (chs s).length
def sAt (s : OkS) (i : Nat) : OkS := mkS [(chs s).getD i 0]
def sTake (s : OkS) (n : Nat) : OkS := mkS ((chs s).take n)
def sDrop (s : OkS) (n : Nat) : OkS := mkS ((chs s).drop n)
def sChars (s : OkS) : List OkS := (chs s).map fun c => mkS [c]
def sIn (x y : OkS) : Bool := if x.1.cps.size = 1 then decide (x.1.cps.getD 0 0 ∈ y.1.cps.toList) else !(Builtin.Str.occurrences y.1 x.1 0 y.1.length 1).isEmpty
def sAdd (s t : OkS) : OkS := mkS (chs s ++ chs t)
def sInt (s : OkS) : Int := (intText? s.1).getD 0
theorem str_len (s : OkS) : s.1.length = slen s := by unfold slen chs; simp [Str.length]
theorem ok1 {s : OkS} {c : Nat} (h : c ∈ chs s) : okL [c] = true := okL_sub (chs_ok s) (by simpa using h)
section
variable {E E1 E2 E3 : List Ms} {m a b c e fi fe : M Rs} {k ka kb kc : Kd} {x y : Int} {p q : Nat} {s t : OkS}
theorem ev_lenS (ha : Ev E a k (.str s.1) E1) (h : slen s ≤ 16777216) : Ev E (dB gLen (dCons a dNil)) .val (.int (slen s : Nat)) E1 := ev_B1v ha (by
  show (if s.1.length ≤ sizeLine then some (Rs.fz (.int s.1.length)) else none) = _
  rw [str_len, if_pos (by rw [sizeLine_eq]; exact h)])
theorem ev_ixSN (ha : Ev E a ka (.str s.1) E1) (hb : Ev E1 b kb (.int (p : Nat)) E2) (h : p < slen s) (hl : slen s ≤ 16777216) (hr : Rdk ka (.str s.1) E2 := by repeat (first | exact True.intro | exact rfl | apply And.intro)) : Ev E (dOp2 gIx a b) .val (eS (sAt s p)) E2 := ev_op2v ha hb (by
  show (if s.1.length ≤ sizeLine then (atI s.1.cps.toList ((p : Nat) : Int)).map fun c => Rs.fz (.str ⟨#[c]⟩) else none) = _
  rw [str_len, if_pos (by rw [sizeLine_eq]; exact hl)]
  have h1 : atI (chs s) ((p : Nat) : Int) = some ((chs s).getD p 0) := by
    refine atI_nat ?_
    rw [getD_lt h, List.getElem?_eq_getElem h]
  rw [h1]
  show some (Rs.fz (.str ⟨#[(chs s).getD p 0]⟩)) = _
  unfold sAt eS
  rw [mkS_val (ok1 (by rw [getD_lt h]; exact List.getElem_mem _))]) hr
theorem sl_txt {lo hi : Option Int} {l : List Nat} (hl : slen s ≤ 16777216) (h : ((chs s).drop (HT.sIx (slen s) 0 lo)).take (HT.sIx (slen s) (slen s) hi - HT.sIx (slen s) 0 lo) = l) : gSl (.str s.1) lo hi = some (.fz (eS (mkS l))) := by
  show (if s.1.length ≤ sizeLine then some (Rs.fz (.str (cutS s.1 lo hi))) else none) = _
  rw [str_len, if_pos (by rw [sizeLine_eq]; exact hl)]
  unfold eS
  rw [mkS_val (l := l) (okL_sub (chs_ok s) fun c hc => by rw [← h] at hc; exact List.mem_of_mem_drop (List.mem_of_mem_take hc))]
  unfold cutS
  rw [str_len, ← h]
theorem ev_slSt (ha : Ev E a ka (.str s.1) E1) {hi : M (Option Int)} (h2 : Ep E1 hi (some (p : Nat)) E2) (hl : slen s ≤ 16777216) (hr : Rdk ka (.str s.1) E2 := by repeat (first | exact True.intro | exact rfl | apply And.intro)) : Ev E (dSl a dNoP hi) .val (eS (sTake s p)) E2 := ev_slv ha ep_no h2 (sl_txt hl (by
  rw [HT.sIx_none, HT.sIx_nat, List.drop_zero, Nat.sub_zero]
  rcases Nat.le_total p (slen s) with z | z
  · rw [Nat.min_eq_left z]
  · rw [Nat.min_eq_right z, List.take_of_length_le (show (chs s).length ≤ slen s from Nat.le_refl _), List.take_of_length_le z])) hr
theorem ev_slSd (ha : Ev E a ka (.str s.1) E1) {lo : M (Option Int)} (h2 : Ep E1 lo (some (p : Nat)) E2) (hl : slen s ≤ 16777216) (hr : Rdk ka (.str s.1) E2 := by repeat (first | exact True.intro | exact rfl | apply And.intro)) : Ev E (dSl a lo dNoP) .val (eS (sDrop s p)) E2 := ev_slv ha h2 ep_no (sl_txt hl (by
  rw [HT.sIx_none, HT.sIx_nat]
  rcases Nat.le_total p (slen s) with z | z
  · rw [Nat.min_eq_left z, List.take_of_length_le (by rw [List.length_drop]; exact Nat.le_refl _)]
  · rw [Nat.min_eq_right z, List.drop_of_length_le (show (chs s).length ≤ slen s from Nat.le_refl _), List.drop_of_length_le z, List.take_nil])) hr
theorem gIn_txt : gIn (.str s.1) (.str t.1) = some (sIn s t) := rfl
theorem gNotIn_txt : gNotIn (.str s.1) (.str t.1) = some (!sIn s t) := rfl
theorem sq_txt : seqItems (.str s.1) = some ((sChars s).map eS) := by
  show some (s.1.cps.toList.map fun c => PyData.str ⟨#[c]⟩) = _
  unfold sChars
  rw [List.map_map]
  refine congrArg some (List.map_congr_left fun c hc => ?_)
  show _ = PyData.str (mkS [c]).1
  rw [mkS_val (ok1 hc)]
theorem ev_addS (ha : Ev E a ka (.str s.1) E1) (hb : Ev E1 b kb (.str t.1) E2) (h : slen s + slen t ≤ 16777216) (hr : Rdk ka (.str s.1) E2 := by repeat (first | exact True.intro | exact rfl | apply And.intro)) : Ev E (dOp2 gAdd a b) .val (eS (sAdd s t)) E2 := ev_op2v ha hb (by
  show (if s.1.length + t.1.length ≤ sizeLine then some (Rs.fz (.str (s.1 ++ t.1))) else none) = _
  rw [str_len, str_len, if_pos (by rw [sizeLine_eq]; exact h)]
  unfold sAdd eS
  rw [mkS_val (okL_iff.mpr fun c hc => by
    rcases List.mem_append.mp hc with z | z
    · exact okL_iff.mp (chs_ok s) c z
    · exact okL_iff.mp (chs_ok t) c z)]
  refine congrArg (fun z => some (Rs.fz (PyData.str z))) ?_
  refine Str.ext' (Array.toList_inj.mp ?_)
  exact tl_append s.1 t.1) hr
theorem ev_intS (ha : Ev E a k (.str s.1) E1) (h : (intText? s.1).isSome = true) (hl : slen s ≤ 640) : Ev E (dB gInt (dCons a dNil)) .val (.int (sInt s)) E1 := ev_B1v ha (by
  show (if s.1.length ≤ 640 then (intText? s.1).map fun n => Rs.fz (.int n) else none) = _
  rw [str_len, if_pos hl]
  unfold sInt
  cases hc : intText? s.1 with
  | none => rw [hc] at h; cases h
  | some n => rfl)
theorem slen_pos (h : s ≠ dS0) : 0 < slen s := by
  unfold slen
  refine List.length_pos_iff.mpr fun e => h (chs_inj ?_)
  rw [e]; rfl
theorem sChars_len : (sChars s).length = slen s := by unfold sChars slen; rw [List.length_map]
end
end TL
/-! TL19: bodies: trees of nodes -/
namespace TL
open PySem L2 DL
theorem Tg.eq {g : DG} {d d' : D} {E E' : List Ms} (e : d = d') (h : Tg g d E E') : Tg g d' E E' := e ▸ h
/-! levels -/
/-! data of bodies -/
/-! nodes and paths -/
end TL
/-! TL20: plain facts of bodies -/
namespace TL
open PySem L2 DL
/-! the node at a path -/
/-! all paths by a pile -/
/-! a node put at a path -/
end TL
/-! TL21: invariants of the loops over bodies -/
namespace TL
open PySem L2 DL
end TL
/-! TL22: sorted(dict(..)) and sorted(set(..)) are one -/
namespace TL
open PySem L2 DL
end TL
/-! TL23: parts of results of two shapes, is of truths, != of the same data -/
namespace TL
open PySem L2 DL
section
variable {E E1 : List Ms} {a : M Rs} {k : Kd} {α β γ : Type} {ea : α → D} {eb : β → D} {ec : γ → D} {w0 w1 : Str} {T : Ty}
theorem gIs_Bt {p : Bool} : gIs (.bool p) (.bool true) = some p := by cases p <;> rfl
theorem gIs_Bf {p : Bool} : gIs (.bool p) (.bool false) = some (!p) := by cases p <;> rfl
end
end TL
/-! TL24: min and max of a list of tuples -/
namespace TL
open PySem L2 DL
end TL
/-! TL25: plain facts that more than one law used -/
namespace TL
open PySem L2 DL
end TL
/-! TL26: a, b = a list; str(int) -/
namespace TL
open PySem L2 DL
section
variable {E E1 E2 E3 : List Ms} {ds : List D} {a : M Rs} {k : Kd} {x : Int}
def sStr (i : Int) : OkS := mkS ((toString i).toList.map Char.toNat)
theorem char_ok (l : List Char) : okL (l.map Char.toNat) = true := okL_iff.mpr fun n hn => by
  obtain ⟨c, _, rfl⟩ := List.mem_map.mp hn
  have := c.valid
  unfold UInt32.isValidChar Nat.isValidChar at this
  unfold Char.toNat
  omega
theorem sStr_val (i : Int) : (sStr i).1 = Str.ofString (toString i) := by
  unfold sStr
  rw [mkS_val (char_ok _), Str.ofString_eq_toList]
theorem ev_strI (ha : Ev E a k (.int x) E1) (h : x.natAbs < 18446744073709551616) : Ev E (dB gStr (dCons a dNil)) .val (eS (sStr x)) E1 := ev_B1v ha (by
  show (if x.natAbs.log2 < 1920 then some (Rs.fz (.str (toString x))) else none) = _
  have hl : x.natAbs.log2 < 1920 := by
    by_cases h0 : x.natAbs = 0
    · rw [h0]; decide
    · exact Nat.lt_of_lt_of_le ((Nat.log2_lt h0).mpr (show x.natAbs < 2 ^ 64 from h)) (by decide)
  rw [if_pos hl]
  unfold eS
  rw [sStr_val])
end
end TL
/-! TL27: tests of which one part draws -/
namespace TL
open PySem L2 DL
/-! loops with exits, by an invariant -/
/-! the node at a path and its kids -/
end TL
namespace TL
open PySem L2 DL
end TL
namespace TL
end TL
/-! TL28: t.index(x), dicts with ints or tuples as keys -/
namespace TL
open PySem L2 DL
/-! association lists -/
/-! tuples as keys -/
structure TkE {α : Type} (enc : α → D) : Prop where
  ok : ∀ x, ∃ k, tkOf (enc x) = some k
  inj : ∀ x y, enc x = enc y → x = y
section
variable {κ α : Type} [DecidableEq κ] {ek : κ → D} {ev : α → D} {kvs : List (κ × α)} {x : κ}
theorem tkOf_nk {d : D} {k : NK} (h : tkOf d = some k) : nkOf d = some k := by
  obtain ⟨e, _, _⟩ := tkOf_some h
  rw [e, nkOf_kN]
theorem TkE.at (t : TkE ek) {k : NK} (h : tkOf (ek x) = some k) (y : κ) : nkOf (ek y) = some k ↔ y = x := by
  constructor
  · intro e
    obtain ⟨k2, h2⟩ := t.ok y
    have e2 := tkOf_nk h2
    rw [e] at e2
    cases e2
    exact t.inj _ _ (by rw [(tkOf_some h2).1, (tkOf_some h).1])
  · rintro rfl; exact tkOf_nk h
theorem TkE.nn (t : TkE ek) {k : NK} (h : tkOf (ek x) = some k) : nkOf .none ≠ some k := fun e => by
  obtain ⟨e1, _, ds, e3⟩ := tkOf_some h
  simp only [nkOf] at e
  cases e
  rw [e3] at e1
  simp only [NestedKey.data] at e1
  cases e1
end
/-! readings -/
end TL
namespace TL
end TL
namespace TL
open PySem L2 DL
end TL
namespace TL
end TL
namespace TL
open PySem L2 DL
end TL
namespace TL
open PySem L2 DL
end TL
/-! TL29: lists in sorted rows; keys and values of two kinds (_law_from) -/
namespace TL
open PySem L2 DL
end TL
/-! TL30: _law_from and _law_flat (k02 k03 k04 k08 k09 k10 k58 k60 k72 .. k78) -/
namespace TL
open PySem L2 DL
end TL
/-! TL31: xs.count(x), xs.remove(x); dicts with tuple keys as wholes -/
namespace TL
open PySem L2 DL
/-! sorted(d), list(d), len(d), dict(pairs), d with tuples as keys -/
end TL
/-! TL32: _law_from gives the body back: the parts -/
namespace TL
open PySem L2 DL
/-! the order of the rows -/
/-! the kids of each path, as they come -/
end TL
/-! TL33: the sorted rows of a sorted body, folded, give the body -/
namespace TL
open PySem L2 DL
end TL
/-! TL34: _law_from of the flat rows of a sorted body is the body -/
namespace TL
open PySem L2 DL
end TL
/-! TL35: bodies that are built from sorted labels are sorted -/
namespace TL
open PySem L2 DL
end TL
/-! TL36: sorted(xs, key=f) -/
namespace TL
open PySem L2 DL
/-! equality of bodies -/
end TL
/-! TL37: list(text) -/
namespace TL
open PySem L2 DL
theorem ev_listS {E E1 : List Ms} {a : M Rs} {k : Kd} {s : OkS} (ha : Ev E a k (eS s) E1) (h : slen s ≤ 16777216) : Ev E (dB gListS (dCons a dNil)) .new (eL eS (sChars s)) E1 := by
  refine ev_B1o ha ?_
  unfold gListS
  dsimp only
  rw [if_pos (by rw [sizeLine_eq]; exact h)]
  have := sq_txt (s := s)
  unfold seqItems at this
  rw [Option.some.inj this]
end TL
set_option maxHeartbeats 3200000
namespace Lawk00
open PySem PySem.Spec PyProof.Rows L2 DL
def topS (i : Nat) : Stmt := PySem.Challenge.pw_amendwarrant_k00_whole_labels_of_article.main.body.getD i (.Pass ⟨0, 0, 0, 0⟩)
section
variable {P : Program} {w : World} {K : PySem.W.Frag} {mg : Str → Option Value} {base : Heap}
/-! ### _law_draws -/
abbrev s__law_draws : Stmt := topS 9
theorem sc__law_draws : FnScope ["script", "many", "draws", "mixed", "k", "cell", "rest", "turn"] ["script", "many"] (defScope s__law_draws) := ⟨rfl, rfl, rfl, by decide +kernel, rfl, by decide +kernel, by decide +kernel⟩
def b__law_draws : DS :=
 (dSeq (dSet 2 (dLst dNil))
 (dSeq (dSet 3 (dC (.int 7)))
 (dSeq (dFor (dRng1 (dCons (dB gLen (dCons (dVar 0) dNil)) dNil)) (gN 4)
 ((dSeq (dSet 5 (dB gAbs (dCons (dB gInt (dCons (dOp2 gIx (dVar 0) (dVar 4)) dNil)) dNil)))
 (dSeq (dSet 3 (dOp2 gMod (dB gInt (dCons (dOp2 gAdd (dOp2 gAdd (dOp2 gMul (dVar 3) (dC (.int 48271))) (dOp2 gMod (dVar 5) (dC (.int 1000003)))) (dVar 4)) dNil)) (dC (.int 65537))))
 (dSeq (dSet 6 (dC (.int 0)))
 (dSeq (dIf (dOp2T gGe (dVar 5) (dOp2 gPow (dC (.int 10)) (dC (.int 18))))
 ((dSet 6 (dVar 5)))
 ((dSeq (dDrop (dMut 2 isLst true gAppend (dCons (dOp2 gMod (dB gInt (dCons (dVar 5) dNil)) (dC (.int 997))) dNil)))
 (dDrop (dMut 2 isLst true gAppend (dCons (dOp2 gMod (dOp2 gMod (dB gInt (dCons (dOp2 gAdd (dOp2 gMul (dVar 3) (dC (.int 69621))) (dC (.int 5))) dNil)) (dC (.int 65521))) (dC (.int 997))) dNil))))))
 (dFor (dRng1 (dCons (dC (.int 60)) dNil)) (gN 7)
 ((dIf (dOp2T gGt (dVar 6) (dC (.int 0)))
 ((dSeq (dDrop (dMut 2 isLst true gAppend (dCons (dOp2 gMod (dB gInt (dCons (dVar 6) dNil)) (dC (.int 997))) dNil)))
 (dSet 6 (dOp2 gDiv (dVar 6) (dC (.int 997))))))
 (dPass))))))))))
 (dSeq (dFor (dRng1 (dCons (dVar 1) dNil)) (gN 4)
 ((dSeq (dSet 3 (dOp2 gMod (dB gInt (dCons (dOp2 gAdd (dOp2 gAdd (dOp2 gMul (dVar 3) (dC (.int 16807))) (dVar 4)) (dC (.int 1))) dNil)) (dC (.int 65537))))
 (dDrop (dMut 2 isLst true gAppend (dCons (dOp2 gMod (dB gInt (dCons (dVar 3) dNil)) (dC (.int 997))) dNil))))))
 (dRet (dSl (dVar 2) dNoP (dPart (dVar 1))))))))
def f__law_draws : M Rs := runDef [true, true] 8 b__law_draws
theorem ok__law_draws {f : Addr} {fd : FuncData} (F : Fun K "_law_draws" "_law_draws" s__law_draws f fd) (m_range : mg "range" = none) (m_len : mg "len" = none) (m_abs : mg "abs" = none) (m_int : mg "int" = none) : FnOk P w K mg base CX0 1 f fd ["script", "many"] (spD ⟨K, w⟩ 2 f__law_draws) := by
  have nd := sc__law_draws.nd
  have h := fun_ok (P := P) (w := w) (K := ⟨K, w⟩) (mg := mg) (base := base) (N := ["script", "many", "draws", "mixed", "k", "cell", "rest", "turn"]) (ps := ["script", "many"]) (ms := [true, true]) (body := b__law_draws) (k := 0) F sc__law_draws rfl (fun cdv A outer s H E hr =>
  (sc (sset (by decide) nd rfl (by first | exact .inl rfl | exact .inr rfl) (el an))
 (sc (sset (by decide) nd rfl (by first | exact .inl rfl | exact .inr rfl) ci)
 (sc (sfor PassesOwn.never rfl (ir1 (by rfl) m_range (ac (eB cLen (by rfl) m_len (by rfl) (ac (pv' 0) an)) an)) (gn (by decide) nd rfl (by first | exact .inl rfl | exact .inr rfl))
 (sc (sset (by decide) nd rfl (by first | exact .inl rfl | exact .inr rfl) (eB cAbs (by rfl) m_abs (by rfl) (ac (eTy cInt (by rfl) m_int (by rfl) (ac (eix (u9 hr) (pv' 0) (pv' 4)) an)) an)))
 (sc (sset (by decide) nd rfl (by first | exact .inl rfl | exact .inr rfl) (e2 oMod (eTy cInt (by rfl) m_int (by rfl) (ac (e2 oAdd (e2 oAdd (e2 oMul (pv' 3) ci) (e2 oMod (pv' 5) ci)) (pv' 4)) an)) ci))
 (sc (sset (by decide) nd rfl (by first | exact .inl rfl | exact .inr rfl) ci)
 (sc (sif (tcmp (oGe (u64 hr)) (pv' 5) (e2 oPow ci ci))
 (s1 (sset (by decide) nd rfl (by first | exact .inl rfl | exact .inr rfl) (pv' 5)))
 (sc (sex (emut PySem.F.plainAttrs_list PySem.F.slot_list_append PySem.F.type_list_append mt_append ty_lst m_append (pv 2) (ac (e2 oMod (eTy cInt (by rfl) m_int (by rfl) (ac (pv' 5) an)) ci) an)))
 (s1 (sex (emut PySem.F.plainAttrs_list PySem.F.slot_list_append PySem.F.type_list_append mt_append ty_lst m_append (pv 2) (ac (e2 oMod (e2 oMod (eTy cInt (by rfl) m_int (by rfl) (ac (e2 oAdd (e2 oMul (pv' 3) ci) ci) an)) ci) ci) an))))))
 (s1 (sfor PassesOwn.never rfl (ir1 (by rfl) m_range (ac ci an)) (gn (by decide) nd rfl (by first | exact .inl rfl | exact .inr rfl))
 (s1 (sif (tcmp (oGt (u64 hr)) (pv' 6) ci)
 (sc (sex (emut PySem.F.plainAttrs_list PySem.F.slot_list_append PySem.F.type_list_append mt_append ty_lst m_append (pv 2) (ac (e2 oMod (eTy cInt (by rfl) m_int (by rfl) (ac (pv' 6) an)) ci) an)))
 (s1 (sset (by decide) nd rfl (by first | exact .inl rfl | exact .inr rfl) (e2 oDiv (pv' 6) ci))))
 sn)))))))))
 (sc (sfor PassesOwn.never rfl (ir1 (by rfl) m_range (ac (pv' 1) an)) (gn (by decide) nd rfl (by first | exact .inl rfl | exact .inr rfl))
 (sc (sset (by decide) nd rfl (by first | exact .inl rfl | exact .inr rfl) (e2 oMod (eTy cInt (by rfl) m_int (by rfl) (ac (e2 oAdd (e2 oAdd (e2 oMul (pv' 3) ci) (pv' 4)) ci) an)) ci))
 (s1 (sex (emut PySem.F.plainAttrs_list PySem.F.slot_list_append PySem.F.type_list_append mt_append ty_lst m_append (pv 2) (ac (e2 oMod (eTy cInt (by rfl) m_int (by rfl) (ac (pv' 3) an)) ci) an))))))
 (s1 (sret (esl (pv' 2) pn (pp (pv' 1))))))))))
  exact h
/-! ### _law_next -/
abbrev s__law_next : Stmt := topS 10
theorem sc__law_next : FnScope ["w", "many"] ["w", "many"] (defScope s__law_next) := ⟨rfl, rfl, rfl, by decide +kernel, rfl, by decide +kernel, by decide +kernel⟩
def b__law_next : DS :=
 (dSeq (dAugS gIAdd 0 (dC (.str "at")) (dC (.int 1)))
 (dSeq (dIf (dOp2T gGt (dOp2 gIx (dVar 0) (dC (.str "at"))) (dB gLen (dCons (dOp2 gIx (dVar 0) (dC (.str "draws"))) dNil)))
 ((dRet (dC (.int 0))))
 (dPass))
 (dRet (dOp2 gMod (dB gInt (dCons (dOp2 gIx (dOp2 gIx (dVar 0) (dC (.str "draws"))) (dOp2 gSub (dOp2 gIx (dVar 0) (dC (.str "at"))) (dC (.int 1)))) dNil)) (dVar 1)))))
def f__law_next : M Rs := runDef [true, true] 2 b__law_next
theorem ok__law_next {f : Addr} {fd : FuncData} (F : Fun K "_law_next" "_law_next" s__law_next f fd) (m_len : mg "len" = none) (m_int : mg "int" = none) : FnOk P w K mg base CX0 1 f fd ["w", "many"] (spD ⟨K, w⟩ 2 f__law_next) := by
  have nd := sc__law_next.nd
  have h := fun_ok (P := P) (w := w) (K := ⟨K, w⟩) (mg := mg) (base := base) (N := ["w", "many"]) (ps := ["w", "many"]) (ms := [true, true]) (body := b__law_next) (k := 0) F sc__law_next rfl (fun cdv A outer s H E hr =>
  (sc (saugs (u1 hr) pAdd (pv 0) cs ci)
 (sc (sif (tcmp (oGt (u64 hr)) (eix (u9 hr) (pv' 0) cs) (eB cLen (by rfl) m_len (by rfl) (ac (eix (u9 hr) (pv' 0) cs) an)))
 (s1 (sret ci))
 sn)
 (s1 (sret (e2 oMod (eTy cInt (by rfl) m_int (by rfl) (ac (eix (u9 hr) (eix (u9 hr) (pv' 0) cs) (e2 oSub (eix (u9 hr) (pv' 0) cs) ci)) an)) (pv' 1)))))))
  exact h
/-! ### _law_pick -/
abbrev s__law_pick : Stmt := topS 11
theorem sc__law_pick : FnScope ["w", "rows"] ["w", "rows"] (defScope s__law_pick) := ⟨rfl, rfl, rfl, by decide +kernel, rfl, by decide +kernel, by decide +kernel⟩
def b__law_pick : DS :=
 (dRet (dOp2 gIx (dVar 1) (dCall [true, true] f__law_next (dCons (dVar 0) (dCons (dB gLen (dCons (dVar 1) dNil)) dNil)))))
def f__law_pick : M Rs := runDef [true, true] 2 b__law_pick
theorem ok__law_pick {f : Addr} {fd : FuncData} (F : Fun K "_law_pick" "_law_pick" s__law_pick f fd) {f_a__law_next : Addr} {d__law_next : FuncData} (G__law_next : FnOk P w K mg base CX0 1 f_a__law_next d__law_next ["w", "many"] (spD ⟨K, w⟩ 2 f__law_next)) (g__law_next : mg "_law_next" = some (.ref f_a__law_next)) (k__law_next : PySem.W.keepIn K (.ref f_a__law_next) = true) (i__law_next : Binds K d__law_next ["w", "many"] []) (m_len : mg "len" = none) : FnOk P w K mg base CX0 2 f fd ["w", "rows"] (spD ⟨K, w⟩ 2 f__law_pick) := by
  have nd := sc__law_pick.nd
  have h := fun_ok (P := P) (w := w) (K := ⟨K, w⟩) (mg := mg) (base := base) (N := ["w", "rows"]) (ps := ["w", "rows"]) (ms := [true, true]) (body := b__law_pick) (k := 1) F sc__law_pick rfl (fun cdv A outer s H E hr =>
  (s1 (sret (eix (u9 hr) (pv' 1) (ecall G__law_next (hr.mono (by omega)) (by rfl) g__law_next k__law_next i__law_next rfl (ac (pv' 0) (ac (eB cLen (by rfl) m_len (by rfl) (ac (pv' 1) an)) an)))))))
  exact h
/-! ### _law_label -/
abbrev s__law_label : Stmt := topS 15
theorem sc__law_label : FnScope ["w"] ["w"] (defScope s__law_label) := ⟨rfl, rfl, rfl, by decide +kernel, rfl, by decide +kernel, by decide +kernel⟩
def b__law_label : DS :=
 (dRet (dOp2 gAdd (dCall [true, true] f__law_pick (dCons (dVar 0) (dCons (dLst (dCons (dC (.str "1")) (dCons (dC (.str "2")) (dCons (dC (.str "3")) (dCons (dC (.str "4")) (dCons (dC (.str "9")) (dCons (dC (.str "10")) (dCons (dC (.str "11")) (dCons (dC (.str "120")) (dCons (dC (.str "99999999")) dNil)))))))))) dNil))) (dCall [true, true] f__law_pick (dCons (dVar 0) (dCons (dLst (dCons (dC (.str "")) (dCons (dC (.str "")) (dCons (dC (.str "a")) (dCons (dC (.str "b")) (dCons (dC (.str "aa")) (dCons (dC (.str "ab")) (dCons (dC (.str "z")) dNil)))))))) dNil)))))
def f__law_label : M Rs := runDef [true] 1 b__law_label
theorem ok__law_label {f : Addr} {fd : FuncData} (F : Fun K "_law_label" "_law_label" s__law_label f fd) {f_a__law_pick : Addr} {d__law_pick : FuncData} (G__law_pick : FnOk P w K mg base CX0 2 f_a__law_pick d__law_pick ["w", "rows"] (spD ⟨K, w⟩ 2 f__law_pick)) (g__law_pick : mg "_law_pick" = some (.ref f_a__law_pick)) (k__law_pick : PySem.W.keepIn K (.ref f_a__law_pick) = true) (i__law_pick : Binds K d__law_pick ["w", "rows"] []) : FnOk P w K mg base CX0 3 f fd ["w"] (spD ⟨K, w⟩ 1 f__law_label) := by
  have nd := sc__law_label.nd
  have h := fun_ok (P := P) (w := w) (K := ⟨K, w⟩) (mg := mg) (base := base) (N := ["w"]) (ps := ["w"]) (ms := [true]) (body := b__law_label) (k := 2) F sc__law_label rfl (fun cdv A outer s H E hr =>
  (s1 (sret (e2 oAdd (ecall G__law_pick (hr.mono (by omega)) (by rfl) g__law_pick k__law_pick i__law_pick rfl (ac (pv' 0) (ac (el (ac cs (ac cs (ac cs (ac cs (ac cs (ac cs (ac cs (ac cs (ac cs an)))))))))) an))) (ecall G__law_pick (hr.mono (by omega)) (by rfl) g__law_pick k__law_pick i__law_pick rfl (ac (pv' 0) (ac (el (ac cs (ac cs (ac cs (ac cs (ac cs (ac cs (ac cs an)))))))) an)))))))
  exact h
/-! ### _law_key -/
abbrev s__law_key : Stmt := topS 13
theorem sc__law_key : FnScope ["label", "k", "sign"] ["label"] (defScope s__law_key) := ⟨rfl, rfl, rfl, by decide +kernel, rfl, by decide +kernel, by decide +kernel⟩
def b__law_key : DS :=
 (dSeq (dSet 1 (dB gLen (dCons (dLc [2] (dWk (dVar 0)) (gN 2) (dAnd (dOp2T gLe (dC (.str "0")) (dVar 2)) (dOp2T gLe (dVar 2) (dC (.str "9")))) (dVar 2)) dNil)))
 (dRet (dTup (dCons (dB gInt (dCons (dSl (dVar 0) dNoP (dPart (dVar 1))) dNil)) (dCons (dSl (dVar 0) (dPart (dVar 1)) dNoP) dNil)))))
def f__law_key : M Rs := runDef [true] 3 b__law_key
theorem ok__law_key {f : Addr} {fd : FuncData} (F : Fun K "_law_key" "_law_key" s__law_key f fd) (m_len : mg "len" = none) (m_int : mg "int" = none) : FnOk P w K mg base CX0 1 f fd ["label"] (spD ⟨K, w⟩ 1 f__law_key) := by
  have nd := sc__law_key.nd
  have h := fun_ok (P := P) (w := w) (K := ⟨K, w⟩) (mg := mg) (base := base) (N := ["label", "k", "sign"]) (ps := ["label"]) (ms := [true]) (body := b__law_key) (k := 0) F sc__law_key rfl (fun cdv A outer s H E hr =>
  (sc (sset (by decide) nd rfl (by first | exact .inl rfl | exact .inr rfl) (eB cLen (by rfl) m_len (by rfl) (ac (lc (own := [("sign", 2)]) rfl nd (iw (pv' 0)) (blkOk_by (by rfl)) (fun _ _ _ _ _ => (gn (by decide) nd rfl (by first | exact .inl rfl | exact .inr rfl))) (fun _ _ _ _ _ => (t1 (twp (wand (tcmp (oLe (u64 hr)) cs (pv' 2)) (wand1 (tcmp (oLe (u64 hr)) (pv' 2) cs)))))) (fun _ _ _ _ _ => (pv' 2))) an)))
 (s1 (sret (et (ac (eTy cInt (by rfl) m_int (by rfl) (ac (esl (pv' 0) pn (pp (pv' 1))) an)) (ac (esl (pv' 0) (pp (pv' 1)) pn) an)))))))
  exact h
/-! ### parts_of -/
abbrev s_parts_of : Stmt := topS 3
theorem sc_parts_of : FnScope ["text", "size"] ["text"] (defScope s_parts_of) := ⟨rfl, rfl, rfl, by decide +kernel, rfl, by decide +kernel, by decide +kernel⟩
def b_parts_of : DS :=
 (dSeq (dSet 1 (dC (.int 0)))
 (dSeq (dWhile 1000000 (dAnd (dOp2T gLt (dVar 1) (dB gLen (dCons (dVar 0) dNil))) (dOp2T gIn (dOp2 gIx (dVar 0) (dVar 1)) (dC (.str "0123456789"))))
 ((dAug gIAdd 1 (dC (.int 1)))))
 (dRet (dTup (dCons (dSl (dVar 0) dNoP (dPart (dVar 1))) (dCons (dSl (dVar 0) (dPart (dVar 1)) dNoP) dNil))))))
def f_parts_of : M Rs := runDef [true] 2 b_parts_of
theorem ok_parts_of {f : Addr} {fd : FuncData} (F : Fun K "parts_of" "parts_of" s_parts_of f fd) (m_len : mg "len" = none) (q_DIGITS : ∃ u, mg "DIGITS" = some u ∧ RelV (.str "0123456789") u) : FnOk P w K mg base CX0 1 f fd ["text"] (spD ⟨K, w⟩ 1 f_parts_of) := by
  have nd := sc_parts_of.nd
  have h := fun_ok (P := P) (w := w) (K := ⟨K, w⟩) (mg := mg) (base := base) (N := ["text", "size"]) (ps := ["text"]) (ms := [true]) (body := b_parts_of) (k := 0) F sc_parts_of rfl (fun cdv A outer s H E hr =>
  (sc (sset (by decide) nd rfl (by first | exact .inl rfl | exact .inr rfl) ci)
 (sc (swhile PassesOwn.never (twp (wand (tcmp (oLt (u64 hr)) (pv' 1) (eB cLen (by rfl) m_len (by rfl) (ac (pv' 0) an))) (wand1 (tcmp (oIn (u65 hr)) (eix (u9 hr) (pv' 0) (pv' 1)) (cgs (by rfl) q_DIGITS)))))
 (s1 (saug (by decide) pAdd nd rfl (by first | exact .inl rfl | exact .inr rfl) ci)))
 (s1 (sret (et (ac (esl (pv' 0) pn (pp (pv' 1))) (ac (esl (pv' 0) (pp (pv' 1)) pn) an))))))))
  exact h
/-! ### label_key -/
abbrev s_label_key : Stmt := topS 5
theorem sc_label_key : FnScope ["label", "digits", "letters"] ["label"] (defScope s_label_key) := ⟨rfl, rfl, rfl, by decide +kernel, rfl, by decide +kernel, by decide +kernel⟩
def b_label_key : DS :=
 (dSeq (dAsg (gT 2 (gsC (gN 1) (gsC (gN 2) gsN))) (dCall [true] f_parts_of (dCons (dVar 0) dNil)))
 (dRet (dTup (dCons (dB gInt (dCons (dVar 1) dNil)) (dCons (dVar 2) dNil)))))
def f_label_key : M Rs := runDef [true] 3 b_label_key
theorem ok_label_key {f : Addr} {fd : FuncData} (F : Fun K "label_key" "label_key" s_label_key f fd) {f_a_parts_of : Addr} {d_parts_of : FuncData} (G_parts_of : FnOk P w K mg base CX0 1 f_a_parts_of d_parts_of ["text"] (spD ⟨K, w⟩ 1 f_parts_of)) (g_parts_of : mg "parts_of" = some (.ref f_a_parts_of)) (k_parts_of : PySem.W.keepIn K (.ref f_a_parts_of) = true) (i_parts_of : Binds K d_parts_of ["text"] []) (m_int : mg "int" = none) : FnOk P w K mg base CX0 2 f fd ["label"] (spD ⟨K, w⟩ 1 f_label_key) := by
  have nd := sc_label_key.nd
  have h := fun_ok (P := P) (w := w) (K := ⟨K, w⟩) (mg := mg) (base := base) (N := ["label", "digits", "letters"]) (ps := ["label"]) (ms := [true]) (body := b_label_key) (k := 1) F sc_label_key rfl (fun cdv A outer s H E hr =>
  (sc (sasg (ecall G_parts_of (hr.mono (by omega)) (by rfl) g_parts_of k_parts_of i_parts_of rfl (ac (pv' 0) an)) (gt rfl (gsc (gn (by decide) nd rfl (by first | exact .inl rfl | exact .inr rfl)) (gsc (gn (by decide) nd rfl (by first | exact .inl rfl | exact .inr rfl)) gsn))))
 (s1 (sret (et (ac (eTy cInt (by rfl) m_int (by rfl) (ac (pv' 1) an)) (ac (pv' 2) an)))))))
  exact h
/-! ### label_behind -/
abbrev s_label_behind : Stmt := topS 6
theorem sc_label_behind : FnScope ["labels", "label", "later", "other", "number", "letters", "able"] ["labels", "label"] (defScope s_label_behind) := ⟨rfl, rfl, rfl, by decide +kernel, rfl, by decide +kernel, by decide +kernel⟩
def b_label_behind : DS :=
 (dSeq (dSet 2 (dLc [3] (dWk (dVar 0)) (gN 3) (dOp2T gGt (dCall [true] f_label_key (dCons (dVar 3) dNil)) (dCall [true] f_label_key (dCons (dVar 1) dNil))) (dVar 3)))
 (dSeq (dAsg (gT 2 (gsC (gN 4) (gsC (gN 5) gsN))) (dCall [true] f_label_key (dCons (dVar 1) dNil)))
 (dSeq (dFor (dWk (dTup (dCons (dB gStr (dCons (dOp2 gAdd (dVar 4) (dC (.int 1))) dNil)) (dCons (dOp2 gAdd (dVar 1) (dC (.str "a"))) dNil)))) (gN 6)
 ((dIf (dOr (dOp2T gEq (dVar 2) (dLst dNil)) (dOp2T gLt (dCall [true] f_label_key (dCons (dVar 6) dNil)) (dCall [true] f_label_key (dCons (dOp2 gIx (dVar 2) (dC (.int 0))) dNil))))
 ((dRet (dVar 6)))
 (dPass))))
 (dRet (dC .none)))))
def f_label_behind : M Rs := runDef [true, true] 7 b_label_behind
theorem ok_label_behind {f : Addr} {fd : FuncData} (F : Fun K "label_behind" "label_behind" s_label_behind f fd) {f_a_label_key : Addr} {d_label_key : FuncData} (G_label_key : FnOk P w K mg base CX0 2 f_a_label_key d_label_key ["label"] (spD ⟨K, w⟩ 1 f_label_key)) (g_label_key : mg "label_key" = some (.ref f_a_label_key)) (k_label_key : PySem.W.keepIn K (.ref f_a_label_key) = true) (i_label_key : Binds K d_label_key ["label"] []) (m_str : mg "str" = none) : FnOk P w K mg base CX0 3 f fd ["labels", "label"] (spD ⟨K, w⟩ 2 f_label_behind) := by
  have nd := sc_label_behind.nd
  have h := fun_ok (P := P) (w := w) (K := ⟨K, w⟩) (mg := mg) (base := base) (N := ["labels", "label", "later", "other", "number", "letters", "able"]) (ps := ["labels", "label"]) (ms := [true, true]) (body := b_label_behind) (k := 2) F sc_label_behind rfl (fun cdv A outer s H E hr =>
  (sc (slc (own := [("other", 3)]) (by decide) rfl nd rfl rfl (sw_true rfl rfl rfl rfl) (iw (pv' 0)) (blkOk_by (by rfl)) (fun _ _ _ _ _ => (gn (by decide) nd rfl (by first | exact .inl rfl | exact .inr rfl))) (fun _ _ _ _ _ => (t1 (tcmp (oGt (u64 hr)) (ecall G_label_key (hr.mono (by omega)) (by rfl) g_label_key k_label_key i_label_key rfl (ac (pv' 3) an)) (ecall G_label_key (hr.mono (by omega)) (by rfl) g_label_key k_label_key i_label_key rfl (ac (pv' 1) an))))) (fun _ _ _ _ _ => (pv' 3)))
 (sc (sasg (ecall G_label_key (hr.mono (by omega)) (by rfl) g_label_key k_label_key i_label_key rfl (ac (pv' 1) an)) (gt rfl (gsc (gn (by decide) nd rfl (by first | exact .inl rfl | exact .inr rfl)) (gsc (gn (by decide) nd rfl (by first | exact .inl rfl | exact .inr rfl)) gsn))))
 (sc (sfor PassesOwn.never rfl (iw (et (ac (eTy cStr (by rfl) m_str (by rfl) (ac (e2 oAdd (pv' 4) ci) an)) (ac (e2 oAdd (pv' 1) cs) an)))) (gn (by decide) nd rfl (by first | exact .inl rfl | exact .inr rfl))
 (s1 (sif (twp (wor (tcmp (oEq (u64 hr)) (pv' 2) (el an)) (wor1 (tcmp (oLt (u64 hr)) (ecall G_label_key (hr.mono (by omega)) (by rfl) g_label_key k_label_key i_label_key rfl (ac (pv' 6) an)) (ecall G_label_key (hr.mono (by omega)) (by rfl) g_label_key k_label_key i_label_key rfl (ac (eix (u9 hr) (pv' 2) ci) an))))))
 (s1 (sret (pv' 6)))
 sn)))
 (s1 (sret cn))))))
  exact h
/-! ### next_label -/
abbrev s_next_label : Stmt := topS 7
theorem sc_next_label : FnScope ["labels", "label"] ["labels"] (defScope s_next_label) := ⟨rfl, rfl, rfl, by decide +kernel, rfl, by decide +kernel, by decide +kernel⟩
def b_next_label : DS :=
 (dRet (dB gStr (dCons (dOp2 gAdd (dB gMax (dCons (dOp2 gAdd (dLst (dCons (dC (.int 0)) dNil)) (dLc [1] (dWk (dVar 0)) (gN 1) dYes (dOp2 gIx (dCall [true] f_label_key (dCons (dVar 1) dNil)) (dC (.int 0))))) dNil)) (dC (.int 1))) dNil)))
def f_next_label : M Rs := runDef [true] 2 b_next_label
theorem ok_next_label {f : Addr} {fd : FuncData} (F : Fun K "next_label" "next_label" s_next_label f fd) {f_a_label_key : Addr} {d_label_key : FuncData} (G_label_key : FnOk P w K mg base CX0 2 f_a_label_key d_label_key ["label"] (spD ⟨K, w⟩ 1 f_label_key)) (g_label_key : mg "label_key" = some (.ref f_a_label_key)) (k_label_key : PySem.W.keepIn K (.ref f_a_label_key) = true) (i_label_key : Binds K d_label_key ["label"] []) (m_str : mg "str" = none) (m_max : mg "max" = none) : FnOk P w K mg base CX0 3 f fd ["labels"] (spD ⟨K, w⟩ 1 f_next_label) := by
  have nd := sc_next_label.nd
  have h := fun_ok (P := P) (w := w) (K := ⟨K, w⟩) (mg := mg) (base := base) (N := ["labels", "label"]) (ps := ["labels"]) (ms := [true]) (body := b_next_label) (k := 2) F sc_next_label rfl (fun cdv A outer s H E hr =>
  (s1 (sret (eTy cStr (by rfl) m_str (by rfl) (ac (e2 oAdd (eB (cMax rfl) (by rfl) m_max (by rfl) (ac (e2 oAdd (el (ac ci an)) (lc (own := [("label", 1)]) rfl nd (iw (pv' 0)) (blkOk_by (by rfl)) (fun _ _ _ _ _ => (gn (by decide) nd rfl (by first | exact .inl rfl | exact .inr rfl))) (fun _ _ _ _ _ => tn) (fun _ _ _ _ _ => (eix (u9 hr) (ecall G_label_key (hr.mono (by omega)) (by rfl) g_label_key k_label_key i_label_key rfl (ac (pv' 1) an)) ci)))) an)) ci) an)))))
  exact h
/-! ### _law_is_bit -/
abbrev s__law_is_bit : Stmt := topS 12
theorem sc__law_is_bit : FnScope ["said", "due"] ["said", "due"] (defScope s__law_is_bit) := ⟨rfl, rfl, rfl, by decide +kernel, rfl, by decide +kernel, by decide +kernel⟩
def b__law_is_bit : DS :=
 (dRet (dOrV (dAndV (dVar 1) (dOp2 (gB gIs) (dVar 0) (dC (.bool true)))) (dAndV (dNotV (dVar 1)) (dOp2 (gB gIs) (dVar 0) (dC (.bool false))))))
def f__law_is_bit : M Rs := runDef [true, true] 2 b__law_is_bit
theorem ok__law_is_bit {f : Addr} {fd : FuncData} (F : Fun K "_law_is_bit" "_law_is_bit" s__law_is_bit f fd)  : FnOk P w K mg base CX0 1 f fd ["said", "due"] (spD ⟨K, w⟩ 2 f__law_is_bit) := by
  have nd := sc__law_is_bit.nd
  have h := fun_ok (P := P) (w := w) (K := ⟨K, w⟩) (mg := mg) (base := base) (N := ["said", "due"]) (ps := ["said", "due"]) (ms := [true, true]) (body := b__law_is_bit) (k := 0) F sc__law_is_bit rfl (fun cdv A outer s H E hr =>
  (s1 (sret (evor (evand (pv' 1) (evone (ecmp oIs (pv' 0) cb))) (evone (evand (evnot (pv' 1)) (evone (ecmp oIs (pv' 0) cb))))))))
  exact h
/-! ### _law_is_label -/
abbrev s__law_is_label : Stmt := topS 14
theorem sc__law_is_label : FnScope ["thing", "k", "sign"] ["thing"] (defScope s__law_is_label) := ⟨rfl, rfl, rfl, by decide +kernel, rfl, by decide +kernel, by decide +kernel⟩
def b__law_is_label : DS :=
 (dSeq (dIf (dOr (dNot (dTru (dIsi .str (dVar 0)))) (dOp2T gEq (dVar 0) (dC (.str ""))))
 ((dRet (dC (.bool false))))
 (dPass))
 (dSeq (dSet 1 (dC (.int 0)))
 (dSeq (dFor (dWk (dB gListS (dCons (dVar 0) dNil))) (gN 2)
 ((dIf (dAnd (dOp2T gLt (dVar 1) (dB gLen (dCons (dVar 0) dNil))) (dAnd (dOp2T gLe (dC (.str "0")) (dOp2 gIx (dVar 0) (dVar 1))) (dOp2T gLe (dOp2 gIx (dVar 0) (dVar 1)) (dC (.str "9")))))
 ((dAug gIAdd 1 (dC (.int 1))))
 (dPass))))
 (dSeq (dIf (dOr (dOp2T gEq (dVar 1) (dC (.int 0))) (dOr (dOp2T gGt (dVar 1) (dC (.int 9))) (dOp2T gEq (dOp2 gIx (dVar 0) (dC (.int 0))) (dC (.str "0")))))
 ((dRet (dC (.bool false))))
 (dPass))
 (dRet (dOp2 (gB gEq) (dLc [2] (dWk (dSl (dVar 0) (dPart (dVar 1)) dNoP)) (gN 2) (dOr (dOp2T gLt (dVar 2) (dC (.str "a"))) (dOp2T gGt (dVar 2) (dC (.str "z")))) (dVar 2)) (dLst dNil)))))))
def f__law_is_label : M Rs := runDef [true] 3 b__law_is_label
theorem ok__law_is_label {f : Addr} {fd : FuncData} (F : Fun K "_law_is_label" "_law_is_label" s__law_is_label f fd) (m_isinstance : mg "isinstance" = none) (m_str : mg "str" = none) (m_list : mg "list" = none) (m_len : mg "len" = none) : FnOk P w K mg base CX0 1 f fd ["thing"] (spD ⟨K, w⟩ 1 f__law_is_label) := by
  have nd := sc__law_is_label.nd
  have h := fun_ok (P := P) (w := w) (K := ⟨K, w⟩) (mg := mg) (base := base) (N := ["thing", "k", "sign"]) (ps := ["thing"]) (ms := [true]) (body := b__law_is_label) (k := 0) F sc__law_is_label rfl (fun cdv A outer s H E hr =>
  (sc (sif (twp (wor (tnot (ttr (eisi .str (by rfl) m_isinstance (by rfl) m_str (by rfl) (pv' 0)))) (wor1 (tcmp (oEq (u64 hr)) (pv' 0) cs))))
 (s1 (sret cb))
 sn)
 (sc (sset (by decide) nd rfl (by first | exact .inl rfl | exact .inr rfl) ci)
 (sc (sfor PassesOwn.never rfl (iw (eTy (cListS rfl) (by rfl) m_list (by rfl) (ac (pv' 0) an))) (gn (by decide) nd rfl (by first | exact .inl rfl | exact .inr rfl))
 (s1 (sif (twp (wand (tcmp (oLt (u64 hr)) (pv' 1) (eB cLen (by rfl) m_len (by rfl) (ac (pv' 0) an))) (wand (tcmp (oLe (u64 hr)) cs (eix (u9 hr) (pv' 0) (pv' 1))) (wand1 (tcmp (oLe (u64 hr)) (eix (u9 hr) (pv' 0) (pv' 1)) cs)))))
 (s1 (saug (by decide) pAdd nd rfl (by first | exact .inl rfl | exact .inr rfl) ci))
 sn)))
 (sc (sif (twp (wor (tcmp (oEq (u64 hr)) (pv' 1) ci) (wor (tcmp (oGt (u64 hr)) (pv' 1) ci) (wor1 (tcmp (oEq (u64 hr)) (eix (u9 hr) (pv' 0) ci) cs)))))
 (s1 (sret cb))
 sn)
 (s1 (sret (ecmp (oEq (u64 hr)) (lc (own := [("sign", 2)]) rfl nd (iw (esl (pv' 0) (pp (pv' 1)) pn)) (blkOk_by (by rfl)) (fun _ _ _ _ _ => (gn (by decide) nd rfl (by first | exact .inl rfl | exact .inr rfl))) (fun _ _ _ _ _ => (t1 (twp (wor (tcmp (oLt (u64 hr)) (pv' 2) cs) (wor1 (tcmp (oGt (u64 hr)) (pv' 2) cs)))))) (fun _ _ _ _ _ => (pv' 2))) (el an)))))))))
  exact h
/-! ### is_label -/
abbrev s_is_label : Stmt := topS 4
theorem sc_is_label : FnScope ["thing", "digits", "letters", "sign"] ["thing"] (defScope s_is_label) := ⟨rfl, rfl, rfl, by decide +kernel, rfl, by decide +kernel, by decide +kernel⟩
def b_is_label : DS :=
 (dSeq (dIf (dNot (dTru (dIsi .str (dVar 0))))
 ((dRet (dC (.bool false))))
 (dPass))
 (dSeq (dAsg (gT 2 (gsC (gN 1) (gsC (gN 2) gsN))) (dCall [true] f_parts_of (dCons (dVar 0) dNil)))
 (dSeq (dIf (dOr (dOp2T gEq (dVar 1) (dC (.str ""))) (dOr (dOp2T gEq (dOp2 gIx (dVar 1) (dC (.int 0))) (dC (.str "0"))) (dOp2T gGt (dB gLen (dCons (dVar 1) dNil)) (dC (.int 9)))))
 ((dRet (dC (.bool false))))
 (dPass))
 (dRet (dOp2 (gB gEq) (dLc [3] (dWk (dVar 2)) (gN 3) (dOp2T gNotIn (dVar 3) (dC (.str "abcdefghijklmnopqrstuvwxyz"))) (dVar 3)) (dLst dNil))))))
def f_is_label : M Rs := runDef [true] 4 b_is_label
theorem ok_is_label {f : Addr} {fd : FuncData} (F : Fun K "is_label" "is_label" s_is_label f fd) {f_a_parts_of : Addr} {d_parts_of : FuncData} (G_parts_of : FnOk P w K mg base CX0 1 f_a_parts_of d_parts_of ["text"] (spD ⟨K, w⟩ 1 f_parts_of)) (g_parts_of : mg "parts_of" = some (.ref f_a_parts_of)) (k_parts_of : PySem.W.keepIn K (.ref f_a_parts_of) = true) (i_parts_of : Binds K d_parts_of ["text"] []) (m_isinstance : mg "isinstance" = none) (m_str : mg "str" = none) (m_len : mg "len" = none) (q_LETTERS : ∃ u, mg "LETTERS" = some u ∧ RelV (.str "abcdefghijklmnopqrstuvwxyz") u) : FnOk P w K mg base CX0 2 f fd ["thing"] (spD ⟨K, w⟩ 1 f_is_label) := by
  have nd := sc_is_label.nd
  have h := fun_ok (P := P) (w := w) (K := ⟨K, w⟩) (mg := mg) (base := base) (N := ["thing", "digits", "letters", "sign"]) (ps := ["thing"]) (ms := [true]) (body := b_is_label) (k := 1) F sc_is_label rfl (fun cdv A outer s H E hr =>
  (sc (sif (tnot (ttr (eisi .str (by rfl) m_isinstance (by rfl) m_str (by rfl) (pv' 0))))
 (s1 (sret cb))
 sn)
 (sc (sasg (ecall G_parts_of (hr.mono (by omega)) (by rfl) g_parts_of k_parts_of i_parts_of rfl (ac (pv' 0) an)) (gt rfl (gsc (gn (by decide) nd rfl (by first | exact .inl rfl | exact .inr rfl)) (gsc (gn (by decide) nd rfl (by first | exact .inl rfl | exact .inr rfl)) gsn))))
 (sc (sif (twp (wor (tcmp (oEq (u64 hr)) (pv' 1) cs) (wor (tcmp (oEq (u64 hr)) (eix (u9 hr) (pv' 1) ci) cs) (wor1 (tcmp (oGt (u64 hr)) (eB cLen (by rfl) m_len (by rfl) (ac (pv' 1) an)) ci)))))
 (s1 (sret cb))
 sn)
 (s1 (sret (ecmp (oEq (u64 hr)) (lc (own := [("sign", 3)]) rfl nd (iw (pv' 2)) (blkOk_by (by rfl)) (fun _ _ _ _ _ => (gn (by decide) nd rfl (by first | exact .inl rfl | exact .inr rfl))) (fun _ _ _ _ _ => (t1 (tcmp (oNotIn (u65 hr)) (pv' 3) (cgs (by rfl) q_LETTERS)))) (fun _ _ _ _ _ => (pv' 3))) (el an))))))))
  exact h
/-! ### law -/
abbrev s_law : Stmt := topS 16
theorem sc_law : FnScope ["script", "w", "turn", "labels", "k", "label", "pair", "keys", "number", "letters", "later", "other", "due", "last", "more", "thing"] ["script"] (defScope s_law) := ⟨rfl, rfl, rfl, by decide +kernel, rfl, by decide +kernel, by decide +kernel⟩
def b_law : DS :=
 (dSeq (dSet 1 (dDisp [((dC (.str "draws")), (dCall [true, true] f__law_draws (dCons (dVar 0) (dCons (dC (.int 300)) dNil)))), ((dC (.str "at")), (dC (.int 0)))]))
 (dSeq (dFor (dRng1 (dCons (dC (.int 4)) dNil)) (gN 2)
 ((dSeq (dSet 3 (dLst dNil))
 (dSeq (dFor (dRng1 (dCons (dCall [true, true] f__law_next (dCons (dVar 1) (dCons (dC (.int 8)) dNil))) dNil)) (gN 4)
 ((dSeq (dSet 5 (dCall [true] f__law_label (dCons (dVar 1) dNil)))
 (dIf (dOp2T gNotIn (dVar 5) (dVar 3))
 ((dDrop (dMut 3 isLst true gAppend (dCons (dVar 5) dNil))))
 (dPass)))))
 (dSeq (dSet 3 (dLc [6] (dWk (dB gSortedX (dCons (dLc [5] (dWk (dVar 3)) (gN 5) dYes (dTup (dCons (dCall [true] f__law_key (dCons (dVar 5) dNil)) (dCons (dVar 5) dNil)))) dNil))) (gN 6) dYes (dOp2 gIx (dVar 6) (dC (.int 1)))))
 (dSeq (dSet 7 (dLc [5] (dWk (dVar 3)) (gN 5) dYes (dCall [true] f_label_key (dCons (dVar 5) dNil))))
 (dSeq (dIf (dOp2T gNe (dVar 7) (dLc [5] (dWk (dVar 3)) (gN 5) dYes (dCall [true] f__law_key (dCons (dVar 5) dNil))))
 ((dRet (dC (.bool false))))
 (dPass))
 (dSeq (dFor (dWk (dOp2 gAdd (dVar 3) (dLst (dCons (dCall [true] f__law_label (dCons (dVar 1) dNil)) dNil)))) (gN 5)
 ((dSeq (dAsg (gT 2 (gsC (gN 8) (gsC (gN 9) gsN))) (dCall [true] f__law_key (dCons (dVar 5) dNil)))
 (dSeq (dSet 10 (dLc [11] (dWk (dVar 3)) (gN 11) (dOp2T gGt (dCall [true] f__law_key (dCons (dVar 11) dNil)) (dTup (dCons (dVar 8) (dCons (dVar 9) dNil)))) (dCall [true] f__law_key (dCons (dVar 11) dNil))))
 (dSeq (dSet 12 (dC .none))
 (dSeq (dIf (dOr (dOp2T gEq (dVar 10) (dLst dNil)) (dOp2T gLt (dTup (dCons (dOp2 gAdd (dVar 8) (dC (.int 1))) (dCons (dC (.str "")) dNil))) (dOp2 gIx (dVar 10) (dC (.int 0)))))
 ((dSet 12 (dB gStr (dCons (dOp2 gAdd (dVar 8) (dC (.int 1))) dNil))))
 ((dIf (dOp2T gLt (dTup (dCons (dVar 8) (dCons (dOp2 gAdd (dVar 9) (dC (.str "a"))) dNil))) (dOp2 gIx (dVar 10) (dC (.int 0))))
 ((dSet 12 (dOp2 gAdd (dVar 5) (dC (.str "a")))))
 (dPass))))
 (dIf (dOp2T gNe (dCall [true, true] f_label_behind (dCons (dB gTuple (dCons (dVar 3) dNil)) (dCons (dVar 5) dNil))) (dVar 12))
 ((dRet (dC (.bool false))))
 (dPass))))))))
 (dSeq (dSet 13 (dB gMax (dCons (dOp2 gAdd (dLst (dCons (dC (.int 0)) dNil)) (dLc [5] (dWk (dVar 3)) (gN 5) dYes (dOp2 gIx (dCall [true] f__law_key (dCons (dVar 5) dNil)) (dC (.int 0))))) dNil)))
 (dSeq (dIf (dOp2T gNe (dCall [true] f_next_label (dCons (dB gTuple (dCons (dVar 3) dNil)) dNil)) (dB gStr (dCons (dOp2 gAdd (dVar 13) (dC (.int 1))) dNil)))
 ((dRet (dC (.bool false))))
 (dPass))
 (dSeq (dSet 5 (dCall [true] f__law_label (dCons (dVar 1) dNil)))
 (dSeq (dSet 4 (dCall [true, true] f__law_next (dCons (dVar 1) (dCons (dOp2 gAdd (dB gLen (dCons (dVar 5) dNil)) (dC (.int 1))) dNil))))
 (dSeq (dSet 14 (dCall [true, true] f__law_pick (dCons (dVar 1) (dCons (dLst (dCons (dC (.str "0")) (dCons (dC (.str "a")) (dCons (dC (.str "A")) (dCons (dC (.str "-")) (dCons (dC (.str " ")) (dCons (dC (.str "1")) (dCons (dC (.str "")) (dCons (dC (.str ".")) dNil))))))))) dNil))))
 (dFor (dWk (dTup (dCons (dVar 5) (dCons (dOp2 gAdd (dC (.str "0")) (dVar 5)) (dCons (dOp2 gAdd (dOp2 gAdd (dSl (dVar 5) dNoP (dPart (dVar 4))) (dVar 14)) (dSl (dVar 5) (dPart (dVar 4)) dNoP)) (dCons (dSl (dVar 5) (dPart (dC (.int 1))) dNoP) (dCons (dOp2 gAdd (dVar 5) (dC (.str "1"))) (dCons (dC (.str "1234567890")) (dCons (dC (.str "123456789z")) (dCons (dC (.str "")) (dCons (dC (.str "a")) (dCons (dC .none) (dCons (dC (.int 3)) (dCons (dC (.bool true)) (dCons (dTup (dCons (dC (.str "1")) dNil)) (dCons (dLst (dCons (dC (.str "1")) dNil)) dNil)))))))))))))))) (gN 15)
 ((dIf (dNot (dTru (dCall [true, true] f__law_is_bit (dCons (dCall [true] f_is_label (dCons (dVar 15) dNil)) (dCons (dCall [true] f__law_is_label (dCons (dVar 15) dNil)) dNil)))))
 ((dRet (dC (.bool false))))
 (dPass)))))))))))))))))
 (dRet (dC (.bool true)))))
def f_law : M Rs := runDef [true] 16 b_law
theorem ok_law {f : Addr} {fd : FuncData} (F : Fun K "law" "law" s_law f fd) {f_a__law_draws : Addr} {d__law_draws : FuncData} (G__law_draws : FnOk P w K mg base CX0 1 f_a__law_draws d__law_draws ["script", "many"] (spD ⟨K, w⟩ 2 f__law_draws)) (g__law_draws : mg "_law_draws" = some (.ref f_a__law_draws)) (k__law_draws : PySem.W.keepIn K (.ref f_a__law_draws) = true) (i__law_draws : Binds K d__law_draws ["script", "many"] []) {f_a__law_next : Addr} {d__law_next : FuncData} (G__law_next : FnOk P w K mg base CX0 1 f_a__law_next d__law_next ["w", "many"] (spD ⟨K, w⟩ 2 f__law_next)) (g__law_next : mg "_law_next" = some (.ref f_a__law_next)) (k__law_next : PySem.W.keepIn K (.ref f_a__law_next) = true) (i__law_next : Binds K d__law_next ["w", "many"] []) {f_a__law_label : Addr} {d__law_label : FuncData} (G__law_label : FnOk P w K mg base CX0 3 f_a__law_label d__law_label ["w"] (spD ⟨K, w⟩ 1 f__law_label)) (g__law_label : mg "_law_label" = some (.ref f_a__law_label)) (k__law_label : PySem.W.keepIn K (.ref f_a__law_label) = true) (i__law_label : Binds K d__law_label ["w"] []) {f_a__law_key : Addr} {d__law_key : FuncData} (G__law_key : FnOk P w K mg base CX0 1 f_a__law_key d__law_key ["label"] (spD ⟨K, w⟩ 1 f__law_key)) (g__law_key : mg "_law_key" = some (.ref f_a__law_key)) (k__law_key : PySem.W.keepIn K (.ref f_a__law_key) = true) (i__law_key : Binds K d__law_key ["label"] []) {f_a_label_key : Addr} {d_label_key : FuncData} (G_label_key : FnOk P w K mg base CX0 2 f_a_label_key d_label_key ["label"] (spD ⟨K, w⟩ 1 f_label_key)) (g_label_key : mg "label_key" = some (.ref f_a_label_key)) (k_label_key : PySem.W.keepIn K (.ref f_a_label_key) = true) (i_label_key : Binds K d_label_key ["label"] []) {f_a_label_behind : Addr} {d_label_behind : FuncData} (G_label_behind : FnOk P w K mg base CX0 3 f_a_label_behind d_label_behind ["labels", "label"] (spD ⟨K, w⟩ 2 f_label_behind)) (g_label_behind : mg "label_behind" = some (.ref f_a_label_behind)) (k_label_behind : PySem.W.keepIn K (.ref f_a_label_behind) = true) (i_label_behind : Binds K d_label_behind ["labels", "label"] []) {f_a_next_label : Addr} {d_next_label : FuncData} (G_next_label : FnOk P w K mg base CX0 3 f_a_next_label d_next_label ["labels"] (spD ⟨K, w⟩ 1 f_next_label)) (g_next_label : mg "next_label" = some (.ref f_a_next_label)) (k_next_label : PySem.W.keepIn K (.ref f_a_next_label) = true) (i_next_label : Binds K d_next_label ["labels"] []) {f_a__law_pick : Addr} {d__law_pick : FuncData} (G__law_pick : FnOk P w K mg base CX0 2 f_a__law_pick d__law_pick ["w", "rows"] (spD ⟨K, w⟩ 2 f__law_pick)) (g__law_pick : mg "_law_pick" = some (.ref f_a__law_pick)) (k__law_pick : PySem.W.keepIn K (.ref f_a__law_pick) = true) (i__law_pick : Binds K d__law_pick ["w", "rows"] []) {f_a__law_is_bit : Addr} {d__law_is_bit : FuncData} (G__law_is_bit : FnOk P w K mg base CX0 1 f_a__law_is_bit d__law_is_bit ["said", "due"] (spD ⟨K, w⟩ 2 f__law_is_bit)) (g__law_is_bit : mg "_law_is_bit" = some (.ref f_a__law_is_bit)) (k__law_is_bit : PySem.W.keepIn K (.ref f_a__law_is_bit) = true) (i__law_is_bit : Binds K d__law_is_bit ["said", "due"] []) {f_a__law_is_label : Addr} {d__law_is_label : FuncData} (G__law_is_label : FnOk P w K mg base CX0 1 f_a__law_is_label d__law_is_label ["thing"] (spD ⟨K, w⟩ 1 f__law_is_label)) (g__law_is_label : mg "_law_is_label" = some (.ref f_a__law_is_label)) (k__law_is_label : PySem.W.keepIn K (.ref f_a__law_is_label) = true) (i__law_is_label : Binds K d__law_is_label ["thing"] []) {f_a_is_label : Addr} {d_is_label : FuncData} (G_is_label : FnOk P w K mg base CX0 2 f_a_is_label d_is_label ["thing"] (spD ⟨K, w⟩ 1 f_is_label)) (g_is_label : mg "is_label" = some (.ref f_a_is_label)) (k_is_label : PySem.W.keepIn K (.ref f_a_is_label) = true) (i_is_label : Binds K d_is_label ["thing"] []) (m_range : mg "range" = none) (m_sorted : mg "sorted" = none) (m_str : mg "str" = none) (m_tuple : mg "tuple" = none) (m_max : mg "max" = none) (m_len : mg "len" = none) : FnOk P w K mg base CX0 4 f fd ["script"] (spD ⟨K, w⟩ 1 f_law) := by
  have nd := sc_law.nd
  have h := fun_ok (P := P) (w := w) (K := ⟨K, w⟩) (mg := mg) (base := base) (N := ["script", "w", "turn", "labels", "k", "label", "pair", "keys", "number", "letters", "later", "other", "due", "last", "more", "thing"]) (ps := ["script"]) (ms := [true]) (body := b_law) (k := 3) F sc_law rfl (fun cdv A outer s H E hr =>
  (sc (sset (by decide) nd rfl (by first | exact .inl rfl | exact .inr rfl) (edi (pps_cons cs (ecall G__law_draws (hr.mono (by omega)) (by rfl) g__law_draws k__law_draws i__law_draws rfl (ac (pv' 0) (ac ci an))) (pps_cons cs ci pps_nil))))
 (sc (sfor PassesOwn.never rfl (ir1 (by rfl) m_range (ac ci an)) (gn (by decide) nd rfl (by first | exact .inl rfl | exact .inr rfl))
 (sc (sset (by decide) nd rfl (by first | exact .inl rfl | exact .inr rfl) (el an))
 (sc (sfor PassesOwn.never rfl (ir1 (by rfl) m_range (ac (ecall G__law_next (hr.mono (by omega)) (by rfl) g__law_next k__law_next i__law_next rfl (ac (pv' 1) (ac ci an))) an)) (gn (by decide) nd rfl (by first | exact .inl rfl | exact .inr rfl))
 (sc (sset (by decide) nd rfl (by first | exact .inl rfl | exact .inr rfl) (ecall G__law_label (hr.mono (by omega)) (by rfl) g__law_label k__law_label i__law_label rfl (ac (pv' 1) an)))
 (s1 (sif (tcmp (oNotIn (u65 hr)) (pv' 5) (pv' 3))
 (s1 (sex (emut PySem.F.plainAttrs_list PySem.F.slot_list_append PySem.F.type_list_append mt_append ty_lst m_append (pv 3) (ac (pv' 5) an))))
 sn))))
 (sc (slc (own := [("pair", 6)]) (by decide) rfl nd rfl rfl (sw_true rfl rfl rfl rfl) (iw (eB (cSortedX rfl (u64 hr)) (by rfl) m_sorted (by rfl) (ac (lc (own := [("label", 5)]) rfl nd (iw (pv' 3)) (blkOk_by (by rfl)) (fun _ _ _ _ _ => (gn (by decide) nd rfl (by first | exact .inl rfl | exact .inr rfl))) (fun _ _ _ _ _ => tn) (fun _ _ _ _ _ => (et (ac (ecall G__law_key (hr.mono (by omega)) (by rfl) g__law_key k__law_key i__law_key rfl (ac (pv' 5) an)) (ac (pv' 5) an))))) an))) (blkOk_by (by rfl)) (fun _ _ _ _ _ => (gn (by decide) nd rfl (by first | exact .inl rfl | exact .inr rfl))) (fun _ _ _ _ _ => tn) (fun _ _ _ _ _ => (eix (u9 hr) (pv' 6) ci)))
 (sc (slc (own := [("label", 5)]) (by decide) rfl nd rfl rfl (sw_true rfl rfl rfl rfl) (iw (pv' 3)) (blkOk_by (by rfl)) (fun _ _ _ _ _ => (gn (by decide) nd rfl (by first | exact .inl rfl | exact .inr rfl))) (fun _ _ _ _ _ => tn) (fun _ _ _ _ _ => (ecall G_label_key (hr.mono (by omega)) (by rfl) g_label_key k_label_key i_label_key rfl (ac (pv' 5) an))))
 (sc (sif (tcmp (oNe (u64 hr)) (pv' 7) (lc (own := [("label", 5)]) rfl nd (iw (pv' 3)) (blkOk_by (by rfl)) (fun _ _ _ _ _ => (gn (by decide) nd rfl (by first | exact .inl rfl | exact .inr rfl))) (fun _ _ _ _ _ => tn) (fun _ _ _ _ _ => (ecall G__law_key (hr.mono (by omega)) (by rfl) g__law_key k__law_key i__law_key rfl (ac (pv' 5) an)))))
 (s1 (sret cb))
 sn)
 (sc (sfor PassesOwn.never rfl (iw (e2 oAdd (pv' 3) (el (ac (ecall G__law_label (hr.mono (by omega)) (by rfl) g__law_label k__law_label i__law_label rfl (ac (pv' 1) an)) an)))) (gn (by decide) nd rfl (by first | exact .inl rfl | exact .inr rfl))
 (sc (sasg (ecall G__law_key (hr.mono (by omega)) (by rfl) g__law_key k__law_key i__law_key rfl (ac (pv' 5) an)) (gt rfl (gsc (gn (by decide) nd rfl (by first | exact .inl rfl | exact .inr rfl)) (gsc (gn (by decide) nd rfl (by first | exact .inl rfl | exact .inr rfl)) gsn))))
 (sc (slc (own := [("other", 11)]) (by decide) rfl nd rfl rfl (sw_true rfl rfl rfl rfl) (iw (pv' 3)) (blkOk_by (by rfl)) (fun _ _ _ _ _ => (gn (by decide) nd rfl (by first | exact .inl rfl | exact .inr rfl))) (fun _ _ _ _ _ => (t1 (tcmp (oGt (u64 hr)) (ecall G__law_key (hr.mono (by omega)) (by rfl) g__law_key k__law_key i__law_key rfl (ac (pv' 11) an)) (et (ac (pv' 8) (ac (pv' 9) an)))))) (fun _ _ _ _ _ => (ecall G__law_key (hr.mono (by omega)) (by rfl) g__law_key k__law_key i__law_key rfl (ac (pv' 11) an))))
 (sc (sset (by decide) nd rfl (by first | exact .inl rfl | exact .inr rfl) cn)
 (sc (sif (twp (wor (tcmp (oEq (u64 hr)) (pv' 10) (el an)) (wor1 (tcmp (oLt (u64 hr)) (et (ac (e2 oAdd (pv' 8) ci) (ac cs an))) (eix (u9 hr) (pv' 10) ci)))))
 (s1 (sset (by decide) nd rfl (by first | exact .inl rfl | exact .inr rfl) (eTy cStr (by rfl) m_str (by rfl) (ac (e2 oAdd (pv' 8) ci) an))))
 (s1 (sif (tcmp (oLt (u64 hr)) (et (ac (pv' 8) (ac (e2 oAdd (pv' 9) cs) an))) (eix (u9 hr) (pv' 10) ci))
 (s1 (sset (by decide) nd rfl (by first | exact .inl rfl | exact .inr rfl) (e2 oAdd (pv' 5) cs)))
 sn)))
 (s1 (sif (tcmp (oNe (u64 hr)) (ecall G_label_behind (hr.mono (by omega)) (by rfl) g_label_behind k_label_behind i_label_behind rfl (ac (eTy cTuple (by rfl) m_tuple (by rfl) (ac (pv' 3) an)) (ac (pv' 5) an))) (pv' 12))
 (s1 (sret cb))
 sn)))))))
 (sc (sset (by decide) nd rfl (by first | exact .inl rfl | exact .inr rfl) (eB (cMax rfl) (by rfl) m_max (by rfl) (ac (e2 oAdd (el (ac ci an)) (lc (own := [("label", 5)]) rfl nd (iw (pv' 3)) (blkOk_by (by rfl)) (fun _ _ _ _ _ => (gn (by decide) nd rfl (by first | exact .inl rfl | exact .inr rfl))) (fun _ _ _ _ _ => tn) (fun _ _ _ _ _ => (eix (u9 hr) (ecall G__law_key (hr.mono (by omega)) (by rfl) g__law_key k__law_key i__law_key rfl (ac (pv' 5) an)) ci)))) an)))
 (sc (sif (tcmp (oNe (u64 hr)) (ecall G_next_label (hr.mono (by omega)) (by rfl) g_next_label k_next_label i_next_label rfl (ac (eTy cTuple (by rfl) m_tuple (by rfl) (ac (pv' 3) an)) an)) (eTy cStr (by rfl) m_str (by rfl) (ac (e2 oAdd (pv' 13) ci) an)))
 (s1 (sret cb))
 sn)
 (sc (sset (by decide) nd rfl (by first | exact .inl rfl | exact .inr rfl) (ecall G__law_label (hr.mono (by omega)) (by rfl) g__law_label k__law_label i__law_label rfl (ac (pv' 1) an)))
 (sc (sset (by decide) nd rfl (by first | exact .inl rfl | exact .inr rfl) (ecall G__law_next (hr.mono (by omega)) (by rfl) g__law_next k__law_next i__law_next rfl (ac (pv' 1) (ac (e2 oAdd (eB cLen (by rfl) m_len (by rfl) (ac (pv' 5) an)) ci) an))))
 (sc (sset (by decide) nd rfl (by first | exact .inl rfl | exact .inr rfl) (ecall G__law_pick (hr.mono (by omega)) (by rfl) g__law_pick k__law_pick i__law_pick rfl (ac (pv' 1) (ac (el (ac cs (ac cs (ac cs (ac cs (ac cs (ac cs (ac cs (ac cs an))))))))) an))))
 (s1 (sfor PassesOwn.never rfl (iw (et (ac (pv' 5) (ac (e2 oAdd cs (pv' 5)) (ac (e2 oAdd (e2 oAdd (esl (pv' 5) pn (pp (pv' 4))) (pv' 14)) (esl (pv' 5) (pp (pv' 4)) pn)) (ac (esl (pv' 5) (pp ci) pn) (ac (e2 oAdd (pv' 5) cs) (ac cs (ac cs (ac cs (ac cs (ac cn (ac ci (ac cb (ac (et (ac cs an)) (ac (el (ac cs an)) an)))))))))))))))) (gn (by decide) nd rfl (by first | exact .inl rfl | exact .inr rfl))
 (s1 (sif (tnot (ttr (ecall G__law_is_bit (hr.mono (by omega)) (by rfl) g__law_is_bit k__law_is_bit i__law_is_bit rfl (ac (ecall G_is_label (hr.mono (by omega)) (by rfl) g_is_label k_is_label i_is_label rfl (ac (pv' 15) an)) (ac (ecall G__law_is_label (hr.mono (by omega)) (by rfl) g__law_is_label k__law_is_label i__law_is_label rfl (ac (pv' 15) an)) an)))))
 (s1 (sret cb))
 sn))))))))))))))))
 (s1 (sret cb)))))
  exact h
end
theorem all_mk {l : PySem.W.OpenLaw} {w : World} {K : PySem.W.Frag} {h : Heap} {mg : Str → Option Value} (X : K.In h) (G : h.Ns mainGlobals mg) {fa f1 f2 f3 f4 f5 f6 f7 f8 f9 f10 f11 f12 f13 : Addr} {od1 an1 od2 an2 od3 an3 od4 an4 od5 an5 od6 an6 od7 an7 od8 an8 od9 an9 od10 an10 od11 an11 od12 an12 od13 an13 : Option Addr} {sl1 sl2 sl3 sl4 sl5 sl6 sl7 sl8 sl9 sl10 sl11 sl12 sl13 : Array (Option Value)} {oc1 kV1 dc1 pm1 cd1 ct1 oc2 kV2 dc2 pm2 cd2 ct2 oc3 kV3 dc3 pm3 cd3 ct3 oc4 kV4 dc4 pm4 cd4 ct4 oc5 kV5 dc5 pm5 cd5 ct5 oc6 kV6 dc6 pm6 cd6 ct6 oc7 kV7 dc7 pm7 cd7 ct7 oc8 kV8 dc8 pm8 cd8 ct8 oc9 kV9 dc9 pm9 cd9 ct9 oc10 kV10 dc10 pm10 cd10 ct10 oc11 kV11 dc11 pm11 cd11 ct11 oc12 kV12 dc12 pm12 cd12 ct12 oc13 kV13 dc13 pm13 cd13 ct13 : Value} (hfa : mg "law" = some (.ref fa))
  (a1 : PySem.W.nsIn K mainGlobals "_law_draws" = some (some (.ref f1))) (l1 : K.lookup f1 = some ⟨oc1, od1, .func (PySem.W.fnOf "_law_draws" "_law_draws" (defArgs s__law_draws) (defBody s__law_draws) (defScope s__law_draws) .none kV1 dc1 pm1 an1 cd1 ct1), sl1⟩) (c1 : PySem.W.codeIn K cd1 "_law_draws" = true) (k1 : PySem.W.keepIn K (.ref f1) = true)
  (a2 : PySem.W.nsIn K mainGlobals "_law_next" = some (some (.ref f2))) (l2 : K.lookup f2 = some ⟨oc2, od2, .func (PySem.W.fnOf "_law_next" "_law_next" (defArgs s__law_next) (defBody s__law_next) (defScope s__law_next) .none kV2 dc2 pm2 an2 cd2 ct2), sl2⟩) (c2 : PySem.W.codeIn K cd2 "_law_next" = true) (k2 : PySem.W.keepIn K (.ref f2) = true)
  (a3 : PySem.W.nsIn K mainGlobals "_law_pick" = some (some (.ref f3))) (l3 : K.lookup f3 = some ⟨oc3, od3, .func (PySem.W.fnOf "_law_pick" "_law_pick" (defArgs s__law_pick) (defBody s__law_pick) (defScope s__law_pick) .none kV3 dc3 pm3 an3 cd3 ct3), sl3⟩) (c3 : PySem.W.codeIn K cd3 "_law_pick" = true) (k3 : PySem.W.keepIn K (.ref f3) = true)
  (a4 : PySem.W.nsIn K mainGlobals "_law_label" = some (some (.ref f4))) (l4 : K.lookup f4 = some ⟨oc4, od4, .func (PySem.W.fnOf "_law_label" "_law_label" (defArgs s__law_label) (defBody s__law_label) (defScope s__law_label) .none kV4 dc4 pm4 an4 cd4 ct4), sl4⟩) (c4 : PySem.W.codeIn K cd4 "_law_label" = true) (k4 : PySem.W.keepIn K (.ref f4) = true)
  (a5 : PySem.W.nsIn K mainGlobals "_law_key" = some (some (.ref f5))) (l5 : K.lookup f5 = some ⟨oc5, od5, .func (PySem.W.fnOf "_law_key" "_law_key" (defArgs s__law_key) (defBody s__law_key) (defScope s__law_key) .none kV5 dc5 pm5 an5 cd5 ct5), sl5⟩) (c5 : PySem.W.codeIn K cd5 "_law_key" = true) (k5 : PySem.W.keepIn K (.ref f5) = true)
  (a6 : PySem.W.nsIn K mainGlobals "parts_of" = some (some (.ref f6))) (l6 : K.lookup f6 = some ⟨oc6, od6, .func (PySem.W.fnOf "parts_of" "parts_of" (defArgs s_parts_of) (defBody s_parts_of) (defScope s_parts_of) .none kV6 dc6 pm6 an6 cd6 ct6), sl6⟩) (c6 : PySem.W.codeIn K cd6 "parts_of" = true) (k6 : PySem.W.keepIn K (.ref f6) = true)
  (a7 : PySem.W.nsIn K mainGlobals "label_key" = some (some (.ref f7))) (l7 : K.lookup f7 = some ⟨oc7, od7, .func (PySem.W.fnOf "label_key" "label_key" (defArgs s_label_key) (defBody s_label_key) (defScope s_label_key) .none kV7 dc7 pm7 an7 cd7 ct7), sl7⟩) (c7 : PySem.W.codeIn K cd7 "label_key" = true) (k7 : PySem.W.keepIn K (.ref f7) = true)
  (a8 : PySem.W.nsIn K mainGlobals "label_behind" = some (some (.ref f8))) (l8 : K.lookup f8 = some ⟨oc8, od8, .func (PySem.W.fnOf "label_behind" "label_behind" (defArgs s_label_behind) (defBody s_label_behind) (defScope s_label_behind) .none kV8 dc8 pm8 an8 cd8 ct8), sl8⟩) (c8 : PySem.W.codeIn K cd8 "label_behind" = true) (k8 : PySem.W.keepIn K (.ref f8) = true)
  (a9 : PySem.W.nsIn K mainGlobals "next_label" = some (some (.ref f9))) (l9 : K.lookup f9 = some ⟨oc9, od9, .func (PySem.W.fnOf "next_label" "next_label" (defArgs s_next_label) (defBody s_next_label) (defScope s_next_label) .none kV9 dc9 pm9 an9 cd9 ct9), sl9⟩) (c9 : PySem.W.codeIn K cd9 "next_label" = true) (k9 : PySem.W.keepIn K (.ref f9) = true)
  (a10 : PySem.W.nsIn K mainGlobals "_law_is_bit" = some (some (.ref f10))) (l10 : K.lookup f10 = some ⟨oc10, od10, .func (PySem.W.fnOf "_law_is_bit" "_law_is_bit" (defArgs s__law_is_bit) (defBody s__law_is_bit) (defScope s__law_is_bit) .none kV10 dc10 pm10 an10 cd10 ct10), sl10⟩) (c10 : PySem.W.codeIn K cd10 "_law_is_bit" = true) (k10 : PySem.W.keepIn K (.ref f10) = true)
  (a11 : PySem.W.nsIn K mainGlobals "_law_is_label" = some (some (.ref f11))) (l11 : K.lookup f11 = some ⟨oc11, od11, .func (PySem.W.fnOf "_law_is_label" "_law_is_label" (defArgs s__law_is_label) (defBody s__law_is_label) (defScope s__law_is_label) .none kV11 dc11 pm11 an11 cd11 ct11), sl11⟩) (c11 : PySem.W.codeIn K cd11 "_law_is_label" = true) (k11 : PySem.W.keepIn K (.ref f11) = true)
  (a12 : PySem.W.nsIn K mainGlobals "is_label" = some (some (.ref f12))) (l12 : K.lookup f12 = some ⟨oc12, od12, .func (PySem.W.fnOf "is_label" "is_label" (defArgs s_is_label) (defBody s_is_label) (defScope s_is_label) .none kV12 dc12 pm12 an12 cd12 ct12), sl12⟩) (c12 : PySem.W.codeIn K cd12 "is_label" = true) (k12 : PySem.W.keepIn K (.ref f12) = true)
  (a13 : PySem.W.nsIn K mainGlobals "law" = some (some (.ref f13))) (l13 : K.lookup f13 = some ⟨oc13, od13, .func (PySem.W.fnOf "law" "law" (defArgs s_law) (defBody s_law) (defScope s_law) .none kV13 dc13 pm13 an13 cd13 ct13), sl13⟩) (c13 : PySem.W.codeIn K cd13 "law" = true) (k13 : PySem.W.keepIn K (.ref f13) = true)
  (z1 : PySem.W.nsIn K mainGlobals "range" = some none)
  (z2 : PySem.W.nsIn K mainGlobals "len" = some none)
  (z3 : PySem.W.nsIn K mainGlobals "abs" = some none)
  (z4 : PySem.W.nsIn K mainGlobals "int" = some none)
  (z5 : PySem.W.nsIn K mainGlobals "str" = some none)
  (z6 : PySem.W.nsIn K mainGlobals "max" = some none)
  (z7 : PySem.W.nsIn K mainGlobals "isinstance" = some none)
  (z8 : PySem.W.nsIn K mainGlobals "list" = some none)
  (z9 : PySem.W.nsIn K mainGlobals "sorted" = some none)
  (z10 : PySem.W.nsIn K mainGlobals "tuple" = some none)
  {uq_DIGITS : Value} (aq_DIGITS : PySem.W.nsIn K mainGlobals "DIGITS" = some (some uq_DIGITS)) (rq_DIGITS : RelV (.str "0123456789") uq_DIGITS)
  {uq_LETTERS : Value} (aq_LETTERS : PySem.W.nsIn K mainGlobals "LETTERS" = some (some uq_LETTERS)) (rq_LETTERS : RelV (.str "abcdefghijklmnopqrstuvwxyz") uq_LETTERS) :
  ∃ fd : FuncData, (∀ (s : Shared) (v : Value), BindsTo s fd ⟨[v], []⟩ [("script", v)]) ∧ ∀ base : Heap, K.In base → base.Ns mainGlobals mg → FnOk l.prog w K mg base CX0 4 fa fd ["script"] (spD ⟨K, w⟩ 1 f_law) := by
  have e := hfa.symm.trans (PySem.W.mg_of X G a13)
  cases e
  have F1 := fun_mk (st := s__law_draws) l1 c1 k1
  have b1 := F1.binds (ps := ["script", "many"]) fun _ _ _ _ _ _ us hl => match us, hl with | [_, _], _ => rfl
  have g1 := PySem.W.mg_of X G a1
  have F2 := fun_mk (st := s__law_next) l2 c2 k2
  have b2 := F2.binds (ps := ["w", "many"]) fun _ _ _ _ _ _ us hl => match us, hl with | [_, _], _ => rfl
  have g2 := PySem.W.mg_of X G a2
  have F3 := fun_mk (st := s__law_pick) l3 c3 k3
  have b3 := F3.binds (ps := ["w", "rows"]) fun _ _ _ _ _ _ us hl => match us, hl with | [_, _], _ => rfl
  have g3 := PySem.W.mg_of X G a3
  have F4 := fun_mk (st := s__law_label) l4 c4 k4
  have b4 := F4.binds (ps := ["w"]) fun _ _ _ _ _ _ us hl => match us, hl with | [_], _ => rfl
  have g4 := PySem.W.mg_of X G a4
  have F5 := fun_mk (st := s__law_key) l5 c5 k5
  have b5 := F5.binds (ps := ["label"]) fun _ _ _ _ _ _ us hl => match us, hl with | [_], _ => rfl
  have g5 := PySem.W.mg_of X G a5
  have F6 := fun_mk (st := s_parts_of) l6 c6 k6
  have b6 := F6.binds (ps := ["text"]) fun _ _ _ _ _ _ us hl => match us, hl with | [_], _ => rfl
  have g6 := PySem.W.mg_of X G a6
  have F7 := fun_mk (st := s_label_key) l7 c7 k7
  have b7 := F7.binds (ps := ["label"]) fun _ _ _ _ _ _ us hl => match us, hl with | [_], _ => rfl
  have g7 := PySem.W.mg_of X G a7
  have F8 := fun_mk (st := s_label_behind) l8 c8 k8
  have b8 := F8.binds (ps := ["labels", "label"]) fun _ _ _ _ _ _ us hl => match us, hl with | [_, _], _ => rfl
  have g8 := PySem.W.mg_of X G a8
  have F9 := fun_mk (st := s_next_label) l9 c9 k9
  have b9 := F9.binds (ps := ["labels"]) fun _ _ _ _ _ _ us hl => match us, hl with | [_], _ => rfl
  have g9 := PySem.W.mg_of X G a9
  have F10 := fun_mk (st := s__law_is_bit) l10 c10 k10
  have b10 := F10.binds (ps := ["said", "due"]) fun _ _ _ _ _ _ us hl => match us, hl with | [_, _], _ => rfl
  have g10 := PySem.W.mg_of X G a10
  have F11 := fun_mk (st := s__law_is_label) l11 c11 k11
  have b11 := F11.binds (ps := ["thing"]) fun _ _ _ _ _ _ us hl => match us, hl with | [_], _ => rfl
  have g11 := PySem.W.mg_of X G a11
  have F12 := fun_mk (st := s_is_label) l12 c12 k12
  have b12 := F12.binds (ps := ["thing"]) fun _ _ _ _ _ _ us hl => match us, hl with | [_], _ => rfl
  have g12 := PySem.W.mg_of X G a12
  have F13 := fun_mk (st := s_law) l13 c13 k13
  have b13 := F13.binds (ps := ["script"]) fun _ _ _ _ _ _ us hl => match us, hl with | [_], _ => rfl
  have g13 := PySem.W.mg_of X G a13
  have y1 := PySem.W.mg_none_of X G z1
  have y2 := PySem.W.mg_none_of X G z2
  have y3 := PySem.W.mg_none_of X G z3
  have y4 := PySem.W.mg_none_of X G z4
  have y5 := PySem.W.mg_none_of X G z5
  have y6 := PySem.W.mg_none_of X G z6
  have y7 := PySem.W.mg_none_of X G z7
  have y8 := PySem.W.mg_none_of X G z8
  have y9 := PySem.W.mg_none_of X G z9
  have y10 := PySem.W.mg_none_of X G z10
  have q_DIGITS : ∃ u, mg "DIGITS" = some u ∧ RelV (.str "0123456789") u := ⟨_, PySem.W.mg_of X G aq_DIGITS, rq_DIGITS⟩
  have q_LETTERS : ∃ u, mg "LETTERS" = some u ∧ RelV (.str "abcdefghijklmnopqrstuvwxyz") u := ⟨_, PySem.W.mg_of X G aq_LETTERS, rq_LETTERS⟩
  refine ⟨PySem.W.fnOf "law" "law" (defArgs s_law) (defBody s_law) (defScope s_law) .none kV13 dc13 pm13 an13 cd13 ct13, fun s v => .of_eq rfl, fun base _ _ => ?_⟩
  have G1 := ok__law_draws (P := l.prog) (w := w) (mg := mg) (base := base) F1 y1 y2 y3 y4
  have G2 := ok__law_next (P := l.prog) (w := w) (mg := mg) (base := base) F2 y2 y4
  have G3 := ok__law_pick (P := l.prog) (w := w) (mg := mg) (base := base) F3 G2 g2 F2.kp b2 y2
  have G4 := ok__law_label (P := l.prog) (w := w) (mg := mg) (base := base) F4 G3 g3 F3.kp b3
  have G5 := ok__law_key (P := l.prog) (w := w) (mg := mg) (base := base) F5 y2 y4
  have G6 := ok_parts_of (P := l.prog) (w := w) (mg := mg) (base := base) F6 y2 q_DIGITS
  have G7 := ok_label_key (P := l.prog) (w := w) (mg := mg) (base := base) F7 G6 g6 F6.kp b6 y4
  have G8 := ok_label_behind (P := l.prog) (w := w) (mg := mg) (base := base) F8 G7 g7 F7.kp b7 y5
  have G9 := ok_next_label (P := l.prog) (w := w) (mg := mg) (base := base) F9 G7 g7 F7.kp b7 y5 y6
  have G10 := ok__law_is_bit (P := l.prog) (w := w) (mg := mg) (base := base) F10 
  have G11 := ok__law_is_label (P := l.prog) (w := w) (mg := mg) (base := base) F11 y7 y5 y8 y2
  have G12 := ok_is_label (P := l.prog) (w := w) (mg := mg) (base := base) F12 G6 g6 F6.kp b6 y7 y5 y2 q_LETTERS
  have G13 := ok_law (P := l.prog) (w := w) (mg := mg) (base := base) F13 G1 g1 F1.kp b1 G2 g2 F2.kp b2 G4 g4 F4.kp b4 G5 g5 F5.kp b5 G7 g7 F7.kp b7 G8 g8 F8.kp b8 G9 g9 F9.kp b9 G3 g3 F3.kp b3 G10 g10 F10.kp b10 G11 g11 F11.kp b11 G12 g12 F12.kp b12 y1 y9 y5 y10 y6 y2
  exact G13
end Lawk00
set_option maxHeartbeats 1600000
namespace Lawk00
open PySem L2 DL TL
inductive Th where
  | s (x : OkS) | n | i (k : Int) | b (v : Bool) | t (xs : List OkS) | l (xs : List OkS)
def eTh : Th → D
  | .s x => eS x
  | .n => .none
  | .i k => eI k
  | .b v => eB v
  | .t xs => eT eS xs
  | .l xs => eL eS xs
abbrev LA0 : List OkS := [okS "1", okS "2", okS "3", okS "4", okS "9", okS "10", okS "11", okS "120", okS "99999999"]
abbrev LB0 : List OkS := [okS "", okS "", okS "a", okS "b", okS "aa", okS "ab", okS "z"]
abbrev LABX : List OkS := LA0.flatMap fun a => LB0.map fun b => sAdd a b
theorem labL : ∀ a ∈ LA0, slen a ≤ 8 := by decide +kernel
theorem labR : ∀ a ∈ LB0, slen a ≤ 5 := by decide +kernel
theorem keyX : ∀ l ∈ LABX, slen l ≤ 10 ∧ (intText? (sTake l ((sChars l).filter (fun (sign1 : OkS) => ((leG eS (okS "0") sign1) && (leG eS sign1 (okS "9"))))).length).1).isSome = true ∧ slen (sTake l ((sChars l).filter (fun (sign1 : OkS) => ((leG eS (okS "0") sign1) && (leG eS sign1 (okS "9"))))).length) ≤ 640 := by decide +kernel
/-- labels whose key is asked: those drawn, the number behind, with an a -/
abbrev LABK : List OkS := LABX ++ [okS "2", okS "3", okS "4", okS "5", okS "10", okS "11", okS "12", okS "121", okS "100000000"] ++ LABX.map fun l => sAdd l (okS "a")
theorem posF2 {d : OkS} (h : ((!true) || decide (d = okS "")) = false) : 0 < slen d := slen_pos fun z => by rw [z] at h; exact absurd h (by decide)
theorem slen_dropN (s : OkS) (n : Nat) : slen (sDrop s n) ≤ slen s := by
  unfold slen sDrop
  rw [mkS_chs (okL_sub (chs_ok s) (fun c h => List.mem_of_mem_drop h)), List.length_drop]
  omega
theorem slen_takeN (s : OkS) (n : Nat) : slen (sTake s n) ≤ slen s := by
  unfold slen sTake
  rw [mkS_chs (okL_sub (chs_ok s) (fun c h => List.mem_of_mem_take h)), List.length_take]
  omega
theorem LABX_K {l : OkS} (h : l ∈ LABX) : l ∈ LABK := List.mem_append_left _ (List.mem_append_left _ h)
theorem alen : slen (okS "a") ≤ 5 := by decide +kernel
def T__law_is_bit (said : Bool) (due : Bool) : Bool :=
  ((due && said) || ((!due) && (!said)))
theorem tv__law_is_bit (said : Bool) (due : Bool)  : Ev [.fz (eB said), .fz (eB due)] f__law_is_bit .val (eB (T__law_is_bit said due)) [.fz (eB said), .fz (eB due)] := by
  unfold f__law_is_bit
  refine ev_run (n := 2) (enc := eB) (outs := (fun p_ : Bool => [.fz (eB said), .fz (eB due)])) (v := T__law_is_bit said due) ?_
  unfold b__law_is_bit T__law_is_bit
  show Sg [.fz (eB said), .fz (eB due)] _ _ _
  refine sg_last ?_
  exact sg_ret (v := ((due && said) || ((!due) && (!said)))) (ev_orb (p := (due && said)) (q := ((!due) && (!said))) (ev_andb (p := due) (q := said) (ev_fz (i := 1) rfl) (fun hb1 => (ev_cmp (p := said) (da := (eB said)) (db := (eB true)) (ev_fz (i := 0) rfl) ev_C gIs_Bt))) (fun hb2 => (ev_andb (p := (!due)) (q := (!said)) (ev_notb (ev_fz (i := 1) rfl)) (fun hb3 => (ev_cmp (p := (!said)) (da := (eB said)) (db := (eB false)) (ev_fz (i := 0) rfl) ev_C gIs_Bf))))) leT roT
def T__law_key (label : OkS) : (Int × OkS) :=
  Let (((sChars label).filter (fun (sign1 : OkS) => ((leG eS (okS "0") sign1) && (leG eS sign1 (okS "9"))))).length : Nat) fun k5 => ((sInt (sTake label k5)), (sDrop label k5))
theorem tv__law_key (label : OkS) (hl : label ∈ LABX) : Ev [.fz (eS label)] f__law_key .val ((e2 eI eS) (T__law_key label)) [.fz (eS label)] := by
  have hk_ := keyX label hl
  have hl_ := hk_.1
  unfold f__law_key
  refine ev_run (n := 1) (enc := (e2 eI eS)) (outs := (fun p_ : (Int × OkS) => [.fz (eS label), .any, .any])) (v := T__law_key label) ?_
  unfold b__law_key T__law_key
  show Sg [.fz (eS label), .any, .any] _ _ _
  refine sg_set (d := (eN (((sChars label).filter (fun (sign1 : OkS) => ((leG eS (okS "0") sign1) && (leG eS sign1 (okS "9"))))).length))) (ev_lenL (enc := eS) (xs := ((sChars label).filter (fun (sign1 : OkS) => ((leG eS (okS "0") sign1) && (leG eS sign1 (okS "9")))))) (Ev.eq (ev_lc (enc := eS) (encB := eS) (xs := (sChars label)) (p := (fun (sign1 : OkS) => ((leG eS (okS "0") sign1) && (leG eS sign1 (okS "9"))))) (fe := (fun (sign1 : OkS) => sign1)) (ew_val (d := (eS label)) (ev_fz (i := 0) rfl) sq_txt) (by first | exact scQ | (rw [sChars_len]; omega) | (rw [hk5]; exact hk_.2.1) | (rw [hk5]; exact hk_.2.2) | exact scT /-1-/) (fun sign1 hx2 => ⟨_, tg_n, (tj_and (p := (leG eS (okS "0") sign1)) (q := (leG eS sign1 (okS "9"))) (tj_cmp (p := (leG eS (okS "0") sign1)) (da := (eS (okS "0"))) (db := (eS sign1)) ev_C (ev_fz (i := 2) rfl) (gLe_G (enc := eS) (so_str (n := 0)) (fun _ _ h => nomatch h))) (fun hb4 => (tj_cmp (p := (leG eS sign1 (okS "9"))) (da := (eS sign1)) (db := (eS (okS "9"))) (ev_fz (i := 2) rfl) ev_C (gLe_G (enc := eS) (so_str (n := 0)) (fun _ _ h => nomatch h))))), (fun _ => leT), fun hp3 => ⟨_, _, (ev_fz (i := 2) rfl), leT⟩⟩)) (map_id_e _ _))) ?_
  refine sg_gen (fun k5 : Nat => [.fz (eS label), .fz (eN k5), .any]) (x := ((sChars label).filter (fun (sign1 : OkS) => ((leG eS (okS "0") sign1) && (leG eS sign1 (okS "9"))))).length) fun k5 hk5 => ?_
  refine sg_last ?_
  exact sg_ret (v := ((sInt (sTake label k5)), (sDrop label k5))) (ev_tup (ea_cons (da := (eI (sInt (sTake label k5)))) (ev_intS (s := (sTake label k5)) (ev_slSt (s := label) (p := k5) (ev_fz (i := 0) rfl) (ep_part (ev_fz (i := 1) rfl)) (by first | exact scQ | (rw [sChars_len]; omega) | (rw [hk5]; exact hk_.2.1) | (rw [hk5]; exact hk_.2.2) | exact scT /-2-/)) (by first | exact scQ | (rw [sChars_len]; omega) | (rw [hk5]; exact hk_.2.1) | (rw [hk5]; exact hk_.2.2) | exact scT /-3-/) (by first | exact scQ | (rw [sChars_len]; omega) | (rw [hk5]; exact hk_.2.1) | (rw [hk5]; exact hk_.2.2) | exact scT /-4-/)) (ea_cons (da := (eS (sDrop label k5))) (ev_slSd (s := label) (p := k5) (ev_fz (i := 0) rfl) (ep_part (ev_fz (i := 1) rfl)) (by first | exact scQ | (rw [sChars_len]; omega) | (rw [hk5]; exact hk_.2.1) | (rw [hk5]; exact hk_.2.2) | exact scT /-5-/)) ea_nil))) leT roT
def T__law_is_label_S (thing : OkS) : Bool :=
  if ((!true) || (decide (thing = (okS "")))) = true then false else Let (List.foldl (fun (s3 : (Nat)) (sign5 : OkS) => if ((decide (s3 < (slen thing))) && ((leG eS (okS "0") (sAt thing s3)) && (leG eS (sAt thing s3) (okS "9")))) = true then Let ((s3 + 1) : Nat) fun k11 => k11 else s3) 0 (sChars thing)) fun (s3 : (Nat)) => if ((decide (s3 = 0)) || ((decide (9 < s3)) || (decide ((sAt thing 0) = (okS "0"))))) = true then false else (decide (((sChars (sDrop thing s3)).filter (fun (sign15 : OkS) => ((ltG eS sign15 (okS "a")) || (ltG eS (okS "z") sign15)))) = ([] : (List OkS))))
theorem tv__law_is_label_S (thing : OkS) (hz : slen thing ≤ 20) : Ev [.fz (eS thing)] f__law_is_label .val (eB (T__law_is_label_S thing)) [.fz (eS thing)] := by
  unfold f__law_is_label
  refine ev_run (n := 1) (enc := eB) (outs := (fun p_ : Bool => [.fz (eS thing), .any, .any])) (v := T__law_is_label_S thing) ?_
  unfold b__law_is_label T__law_is_label_S
  show Sg [.fz (eS thing), .any, .any] _ _ _
  refine sg_if (tj_or (p := (!true)) (q := (decide (thing = (okS "")))) (tj_as [.fz (eS thing), .any, .any] (tj_not (p := true) (tj_b (p := true) (ev_isi (T := .str) (da := (eS thing)) (ev_fz (i := 0) rfl))))) (fun hb1 => (tj_cmp (p := (decide (thing = (okS "")))) (da := (eS thing)) (db := (eS (okS ""))) (ev_fz (i := 0) rfl) ev_C (gEq_g (gd_str (n := 0)))))) (fun hc2 => ?_) (fun hc2 => ?_)
  · show Sg [.fz (eS thing), .any, .any] _ _ _
    exact sg_ret (v := false) ev_C leT roT
  · show Sg [.fz (eS thing), .any, .any] _ _ _
    refine sg_skip ?_
    refine sg_set (d := (eN 0)) ev_C ?_
    show Sg [.fz (eS thing), .fz (eN 0), .any] _ _ _
    refine sg_for (step := (fun (s3 : (Nat)) (sign5 : OkS) => if ((decide (s3 < (slen thing))) && ((leG eS (okS "0") (sAt thing s3)) && (leG eS (sAt thing s3) (okS "9")))) = true then Let ((s3 + 1) : Nat) fun k11 => k11 else s3)) (enc := eS) (xs := (sChars thing)) (s0 := 0) (fun (s3 : (Nat)) => [.fz (eS thing), .fz (eN s3), .any]) (fun _ _ => True) (ew_new (d := ((eL eS) (sChars thing))) (ev_listS (s := thing) (ev_fz (i := 0) rfl) (by first | exact scQ | exact of_decide_eq_true (by assumption) | exact posF2 (by assumption) | (rw [sChars_len]; have h_ := slen_dropN thing s3; omega) | exact scT /-1-/)) rfl) leT trivial (fun k4 sign5 s3 hk6 hI7 => ⟨_, tg_n, ?_⟩) (fun _ _ _ _ _ => trivial) (fun s3 hs3 hI7 => ?_)
    · show Sg [.fz (eS thing), .fz (eN s3), .fz (eS sign5)] _ _ _
      have hlthk6 := lt_of_get hk6
      have hmhk6 := List.mem_of_getElem? hk6
      refine sg_last ?_
      refine sg_if (tj_and (p := (decide (s3 < (slen thing)))) (q := ((leG eS (okS "0") (sAt thing s3)) && (leG eS (sAt thing s3) (okS "9")))) (tj_as [.fz (eS thing), .fz (eN s3), .fz (eS sign5)] (tj_cmp (p := (decide (s3 < (slen thing)))) (da := (eN s3)) (db := (eN (slen thing))) (ev_fz (i := 1) rfl) (ev_lenS (s := thing) (ev_fz (i := 0) rfl) (by first | exact scQ | exact of_decide_eq_true (by assumption) | exact posF2 (by assumption) | (rw [sChars_len]; have h_ := slen_dropN thing s3; omega) | exact scT /-2-/)) gLt_nn)) (fun hb8 => (tj_and (p := (leG eS (okS "0") (sAt thing s3))) (q := (leG eS (sAt thing s3) (okS "9"))) (tj_cmp (p := (leG eS (okS "0") (sAt thing s3))) (da := (eS (okS "0"))) (db := (eS (sAt thing s3))) ev_C (ev_ixSN (s := thing) (p := s3) (ev_fz (i := 0) rfl) (ev_fz (i := 1) rfl) (by first | exact scQ | exact of_decide_eq_true (by assumption) | exact posF2 (by assumption) | (rw [sChars_len]; have h_ := slen_dropN thing s3; omega) | exact scT /-3-/) (by first | exact scQ | exact of_decide_eq_true (by assumption) | exact posF2 (by assumption) | (rw [sChars_len]; have h_ := slen_dropN thing s3; omega) | exact scT /-4-/)) (gLe_G (enc := eS) (so_str (n := 0)) (fun _ _ h => nomatch h))) (fun hb9 => (tj_cmp (p := (leG eS (sAt thing s3) (okS "9"))) (da := (eS (sAt thing s3))) (db := (eS (okS "9"))) (ev_ixSN (s := thing) (p := s3) (ev_fz (i := 0) rfl) (ev_fz (i := 1) rfl) (by first | exact scQ | exact of_decide_eq_true (by assumption) | exact posF2 (by assumption) | (rw [sChars_len]; have h_ := slen_dropN thing s3; omega) | exact scT /-5-/) (by first | exact scQ | exact of_decide_eq_true (by assumption) | exact posF2 (by assumption) | (rw [sChars_len]; have h_ := slen_dropN thing s3; omega) | exact scT /-6-/)) ev_C (gLe_G (enc := eS) (so_str (n := 0)) (fun _ _ h => nomatch h))))))) (fun hc10 => ?_) (fun hc10 => ?_)
      · show Sg [.fz (eS thing), .fz (eN s3), .fz (eS sign5)] _ _ _
        refine sg_aug (da := (eN s3)) (d := (eN 1)) (dn := eN (s3 + 1)) rfl ev_C gIAdd_nn ?_
        refine sg_gen (fun k11 : Nat => [.fz (eS thing), .fz (eN k11), .fz (eS sign5)]) (x := (s3 + 1)) fun k11 hk11 => ?_
        exact sg_passN leT
      · show Sg [.fz (eS thing), .fz (eN s3), .fz (eS sign5)] _ _ _
        refine sg_skip ?_
        exact sg_passN leT
    show Sg [.fz (eS thing), .fz (eN s3), .any] _ _ _
    refine sg_if (tj_or (p := (decide (s3 = 0))) (q := ((decide (9 < s3)) || (decide ((sAt thing 0) = (okS "0"))))) (tj_cmp (p := (decide (s3 = 0))) (da := (eN s3)) (db := (eN 0)) (ev_fz (i := 1) rfl) ev_C gEq_nn) (fun hb12 => (tj_or (p := (decide (9 < s3))) (q := (decide ((sAt thing 0) = (okS "0")))) (tj_cmp (p := (decide (9 < s3))) (da := (eN s3)) (db := (eN 9)) (ev_fz (i := 1) rfl) ev_C gGt_nn) (fun hb13 => (tj_cmp (p := (decide ((sAt thing 0) = (okS "0")))) (da := (eS (sAt thing 0))) (db := (eS (okS "0"))) (ev_ixSN (s := thing) (p := 0) (ev_fz (i := 0) rfl) ev_C (by first | exact scQ | exact of_decide_eq_true (by assumption) | exact posF2 (by assumption) | (rw [sChars_len]; have h_ := slen_dropN thing s3; omega) | exact scT /-7-/) (by first | exact scQ | exact of_decide_eq_true (by assumption) | exact posF2 (by assumption) | (rw [sChars_len]; have h_ := slen_dropN thing s3; omega) | exact scT /-8-/)) ev_C (gEq_g (gd_str (n := 0)))))))) (fun hc14 => ?_) (fun hc14 => ?_)
    · show Sg [.fz (eS thing), .fz (eN s3), .any] _ _ _
      exact sg_ret (v := false) ev_C leT roT
    · show Sg [.fz (eS thing), .fz (eN s3), .any] _ _ _
      refine sg_skip ?_
      refine sg_last ?_
      exact sg_ret (v := (decide (((sChars (sDrop thing s3)).filter (fun (sign15 : OkS) => ((ltG eS sign15 (okS "a")) || (ltG eS (okS "z") sign15)))) = ([] : (List OkS))))) (ev_cmp (p := (decide (((sChars (sDrop thing s3)).filter (fun (sign15 : OkS) => ((ltG eS sign15 (okS "a")) || (ltG eS (okS "z") sign15)))) = ([] : (List OkS))))) (da := ((eL eS) ((sChars (sDrop thing s3)).filter (fun (sign15 : OkS) => ((ltG eS sign15 (okS "a")) || (ltG eS (okS "z") sign15)))))) (db := ((eL eS) ([] : (List OkS)))) (Ev.eq (ev_lc (enc := eS) (encB := eS) (xs := (sChars (sDrop thing s3))) (p := (fun (sign15 : OkS) => ((ltG eS sign15 (okS "a")) || (ltG eS (okS "z") sign15)))) (fe := (fun (sign15 : OkS) => sign15)) (ew_val (d := (eS (sDrop thing s3))) (ev_slSd (s := thing) (p := s3) (ev_fz (i := 0) rfl) (ep_part (ev_fz (i := 1) rfl)) (by first | exact scQ | exact of_decide_eq_true (by assumption) | exact posF2 (by assumption) | (rw [sChars_len]; have h_ := slen_dropN thing s3; omega) | exact scT /-9-/)) sq_txt) (by first | exact scQ | exact of_decide_eq_true (by assumption) | exact posF2 (by assumption) | (rw [sChars_len]; have h_ := slen_dropN thing s3; omega) | exact scT /-10-/) (fun sign15 hx16 => ⟨_, tg_n, (tj_or (p := (ltG eS sign15 (okS "a"))) (q := (ltG eS (okS "z") sign15)) (tj_cmp (p := (ltG eS sign15 (okS "a"))) (da := (eS sign15)) (db := (eS (okS "a"))) (ev_fz (i := 2) rfl) ev_C (gLt_G (enc := eS) (so_str (n := 0)) (fun _ _ h => nomatch h))) (fun hb18 => (tj_cmp (p := (ltG eS (okS "z") sign15)) (da := (eS sign15)) (db := (eS (okS "z"))) (ev_fz (i := 2) rfl) ev_C (gGt_G (enc := eS) (so_str (n := 0)) (fun _ _ h => nomatch h))))), (fun _ => leT), fun hp17 => ⟨_, _, (ev_fz (i := 2) rfl), leT⟩⟩)) (map_id_e _ _)) (ev_lst ea_nil) (gEq_g (gd_list (gd_str (n := 0))))) leT roT
def T__law_label (ds : List Int) (i_w : Nat)  : (OkS × Nat) :=
  ((sAdd (pkT ds i_w ([(okS "1"), (okS "2"), (okS "3"), (okS "4"), (okS "9"), (okS "10"), (okS "11"), (okS "120"), (okS "99999999")] : (List OkS)) dS0) (pkT ds (i_w + 1) ([(okS ""), (okS ""), (okS "a"), (okS "b"), (okS "aa"), (okS "ab"), (okS "z")] : (List OkS)) dS0)), i_w + 1 + 1)
theorem tv__law_label (ds : List Int) (i_w : Nat)   : Ev [.ow (Wd ds ((i_w : Nat) : Int))] f__law_label .val ((fun p_ : (OkS × Nat) => eS p_.1) (T__law_label ds i_w )) [.ow (Wd ds (((T__law_label ds i_w ).2 : Nat) : Int))] := by
  unfold f__law_label
  refine ev_run (n := 1) (enc := (fun p_ : (OkS × Nat) => eS p_.1)) (outs := (fun p_ : (OkS × Nat) => [.ow (Wd ds ((p_.2 : Nat) : Int))])) (v := T__law_label ds i_w ) ?_
  unfold b__law_label T__law_label
  show Sg [.ow (Wd ds ((i_w : Nat) : Int))] _ _ _
  refine sg_last ?_
  have bx1 := pkT_mem (ds := ds) (i := i_w) (xs := ([(okS "1"), (okS "2"), (okS "3"), (okS "4"), (okS "9"), (okS "10"), (okS "11"), (okS "120"), (okS "99999999")] : (List OkS))) (df := dS0) scT
  have bx2 := pkT_mem (ds := ds) (i := i_w + 1) (xs := ([(okS ""), (okS ""), (okS "a"), (okS "b"), (okS "aa"), (okS "ab"), (okS "z")] : (List OkS))) (df := dS0) scT
  exact sg_ret (v := ((sAdd (pkT ds i_w ([(okS "1"), (okS "2"), (okS "3"), (okS "4"), (okS "9"), (okS "10"), (okS "11"), (okS "120"), (okS "99999999")] : (List OkS)) dS0) (pkT ds (i_w + 1) ([(okS ""), (okS ""), (okS "a"), (okS "b"), (okS "aa"), (okS "ab"), (okS "z")] : (List OkS)) dS0)), i_w + 1 + 1)) (ev_addS (s := (pkT ds i_w ([(okS "1"), (okS "2"), (okS "3"), (okS "4"), (okS "9"), (okS "10"), (okS "11"), (okS "120"), (okS "99999999")] : (List OkS)) dS0)) (t := (pkT ds (i_w + 1) ([(okS ""), (okS ""), (okS "a"), (okS "b"), (okS "aa"), (okS "ab"), (okS "z")] : (List OkS)) dS0)) (ev_call (tv_pickL dS0 ds i_w ([(okS "1"), (okS "2"), (okS "3"), (okS "4"), (okS "9"), (okS "10"), (okS "11"), (okS "120"), (okS "99999999")] : (List OkS)) eS (by first | exact scQ | exact List.cons_ne_nil _ _ | exact Nat.le_trans (Nat.add_le_add (labL _ (pkT_mem (List.cons_ne_nil _ _))) (labR _ (pkT_mem (List.cons_ne_nil _ _)))) (by decide) | exact scT /-1-/)) (ea_consO (i := 0) rfl (ea_cons (da := ((eL eS) ([(okS "1"), (okS "2"), (okS "3"), (okS "4"), (okS "9"), (okS "10"), (okS "11"), (okS "120"), (okS "99999999")] : (List OkS)))) (ev_lst (ea_cons (da := (eS (okS "1"))) ev_C (ea_cons (da := (eS (okS "2"))) ev_C (ea_cons (da := (eS (okS "3"))) ev_C (ea_cons (da := (eS (okS "4"))) ev_C (ea_cons (da := (eS (okS "9"))) ev_C (ea_cons (da := (eS (okS "10"))) ev_C (ea_cons (da := (eS (okS "11"))) ev_C (ea_cons (da := (eS (okS "120"))) ev_C (ea_cons (da := (eS (okS "99999999"))) ev_C ea_nil)))))))))) ea_nil)) rdT) (ev_call (tv_pickL dS0 ds (i_w + 1) ([(okS ""), (okS ""), (okS "a"), (okS "b"), (okS "aa"), (okS "ab"), (okS "z")] : (List OkS)) eS (by first | exact scQ | exact List.cons_ne_nil _ _ | exact Nat.le_trans (Nat.add_le_add (labL _ (pkT_mem (List.cons_ne_nil _ _))) (labR _ (pkT_mem (List.cons_ne_nil _ _)))) (by decide) | exact scT /-2-/)) (ea_consO (i := 0) rfl (ea_cons (da := ((eL eS) ([(okS ""), (okS ""), (okS "a"), (okS "b"), (okS "aa"), (okS "ab"), (okS "z")] : (List OkS)))) (ev_lst (ea_cons (da := (eS (okS ""))) ev_C (ea_cons (da := (eS (okS ""))) ev_C (ea_cons (da := (eS (okS "a"))) ev_C (ea_cons (da := (eS (okS "b"))) ev_C (ea_cons (da := (eS (okS "aa"))) ev_C (ea_cons (da := (eS (okS "ab"))) ev_C (ea_cons (da := (eS (okS "z"))) ev_C ea_nil)))))))) ea_nil)) rdT) (by first | exact scQ | exact List.cons_ne_nil _ _ | exact Nat.le_trans (Nat.add_le_add (labL _ (pkT_mem (List.cons_ne_nil _ _))) (labR _ (pkT_mem (List.cons_ne_nil _ _)))) (by decide) | exact scT /-3-/)) leT roT
def T_parts_of (text : OkS) : (OkS × OkS) :=
  Let (wh (fun (s1 : (Nat)) => ((decide (s1 < (slen text))) && (sIn (sAt text s1) (okS "0123456789")))) (fun (s1 : (Nat)) => Let ((s1 + 1) : Nat) fun size5 => size5) (21) 0) fun (s1 : (Nat)) => ((sTake text s1), (sDrop text s1))
theorem tv_parts_of (text : OkS) (hz : slen text ≤ 20) : Ev [.fz (eS text)] f_parts_of .val ((e2 eS eS) (T_parts_of text)) [.fz (eS text)] := by
  have hz1_ := hz
  unfold f_parts_of
  refine ev_run (n := 1) (enc := (e2 eS eS)) (outs := (fun p_ : (OkS × OkS) => [.fz (eS text), .any])) (v := T_parts_of text) ?_
  unfold b_parts_of T_parts_of
  show Sg [.fz (eS text), .any] _ _ _
  refine sg_set (d := (eN 0)) ev_C ?_
  show Sg [.fz (eS text), .fz (eN 0)] _ _ _
  refine sg_while (fun (s1 : (Nat)) => [.fz (eS text), .fz (eN s1)]) (21) (s0 := 0) (cc := fun (s1 : (Nat)) => ((decide (s1 < (slen text))) && (sIn (sAt text s1) (okS "0123456789")))) (step := fun (s1 : (Nat)) => Let ((s1 + 1) : Nat) fun size5 => size5) (fun (s1 : (Nat)) => s1 ≤ slen text) (fun (s1 : (Nat)) => 20 - s1) leT (by exact Nat.zero_le _) (by omega) scT (fun s1 hI2 => (tj_and (p := (decide (s1 < (slen text)))) (q := (sIn (sAt text s1) (okS "0123456789"))) (tj_as [.fz (eS text), .fz (eN s1)] (tj_cmp (p := (decide (s1 < (slen text)))) (da := (eN s1)) (db := (eN (slen text))) (ev_fz (i := 1) rfl) (ev_lenS (s := text) (ev_fz (i := 0) rfl) (by first | exact scQ | exact of_decide_eq_true (by assumption) | exact scT /-1-/)) gLt_nn)) (fun hb4 => (tj_cmp (p := (sIn (sAt text s1) (okS "0123456789"))) (da := (eS (sAt text s1))) (db := (eS (okS "0123456789"))) (ev_ixSN (s := text) (p := s1) (ev_fz (i := 0) rfl) (ev_fz (i := 1) rfl) (by first | exact scQ | exact of_decide_eq_true (by assumption) | exact scT /-2-/) (by first | exact scQ | exact of_decide_eq_true (by assumption) | exact scT /-3-/)) ev_C gIn_txt)))) (fun s1 hI2 hc3 => ?_) (fun s1 hI2 hc3 => by (have hc_ := hc3; rw [Bool.and_eq_true] at hc_; have h1_ := of_decide_eq_true hc_.1; unfold Let; dsimp only; exact ⟨h1_, by omega⟩)) (fun s1 hs1 hI2 hc3 => ?_)
  · show Sg [.fz (eS text), .fz (eN s1)] _ _ _
    refine sg_last ?_
    refine sg_aug (da := (eN s1)) (d := (eN 1)) (dn := eN (s1 + 1)) rfl ev_C gIAdd_nn ?_
    refine sg_gen (fun size5 : Nat => [.fz (eS text), .fz (eN size5)]) (x := (s1 + 1)) fun size5 hsize5 => ?_
    exact sg_passN leT
  show Sg [.fz (eS text), .fz (eN s1)] _ _ _
  refine sg_last ?_
  exact sg_ret (v := ((sTake text s1), (sDrop text s1))) (ev_tup (ea_cons (da := (eS (sTake text s1))) (ev_slSt (s := text) (p := s1) (ev_fz (i := 0) rfl) (ep_part (ev_fz (i := 1) rfl)) (by first | exact scQ | exact of_decide_eq_true (by assumption) | exact scT /-4-/)) (ea_cons (da := (eS (sDrop text s1))) (ev_slSd (s := text) (p := s1) (ev_fz (i := 0) rfl) (ep_part (ev_fz (i := 1) rfl)) (by first | exact scQ | exact of_decide_eq_true (by assumption) | exact scT /-5-/)) ea_nil))) leT roT
theorem keyK : ∀ l ∈ LABK, slen l ≤ 20 ∧ (intText? (T_parts_of l).1.1).isSome = true ∧ slen (T_parts_of l).1 ≤ 640 := by decide +kernel
theorem parts_len (t : OkS) : slen (T_parts_of t).1 ≤ slen t ∧ slen (T_parts_of t).2 ≤ slen t := ⟨slen_takeN t _, slen_dropN t _⟩
def T_is_label_S (thing : OkS) : Bool :=
  if (!true) = true then false else Let ((T_parts_of thing) : (OkS × OkS)) fun t2 => if ((decide (t2.1 = (okS ""))) || ((decide ((sAt t2.1 0) = (okS "0"))) || (decide (9 < (slen t2.1))))) = true then false else (decide (((sChars t2.2).filter (fun (sign6 : OkS) => (!sIn sign6 (okS "abcdefghijklmnopqrstuvwxyz")))) = ([] : (List OkS))))
theorem tv_is_label_S (thing : OkS) (hz : slen thing ≤ 20) : Ev [.fz (eS thing)] f_is_label .val (eB (T_is_label_S thing)) [.fz (eS thing)] := by
  unfold f_is_label
  refine ev_run (n := 1) (enc := eB) (outs := (fun p_ : Bool => [.fz (eS thing), .any, .any, .any])) (v := T_is_label_S thing) ?_
  unfold b_is_label T_is_label_S
  show Sg [.fz (eS thing), .any, .any, .any] _ _ _
  refine sg_if (tj_not (p := true) (tj_b (p := true) (ev_isi (T := .str) (da := (eS thing)) (ev_fz (i := 0) rfl)))) (fun hc1 => ?_) (fun hc1 => ?_)
  · show Sg [.fz (eS thing), .any, .any, .any] _ _ _
    exact sg_ret (v := false) ev_C leT roT
  · show Sg [.fz (eS thing), .any, .any, .any] _ _ _
    refine sg_skip ?_
    refine sg_asg (d := ((e2 eS eS) (T_parts_of thing))) (ev_call (tv_parts_of thing (by first | exact scQ | exact slen_pos (of_decide_eq_false (by assumption)) | (rw [ht2]; have h_ := parts_len thing; omega) | (rw [sChars_len, ht2]; have h_ := parts_len thing; omega) | exact scT /-1-/)) (ea_cons (da := (eS thing)) (ev_fz (i := 0) rfl) ea_nil) rdT) (tg_t (tg_cons tg_n (tg_cons tg_n tg_nil))) ?_
    refine sg_gen (fun t2 : (OkS × OkS) => [.fz (eS thing), .fz (eS t2.1), .fz (eS t2.2), .any]) (x := (T_parts_of thing)) fun t2 ht2 => ?_
    refine sg_if (tj_or (p := (decide (t2.1 = (okS "")))) (q := ((decide ((sAt t2.1 0) = (okS "0"))) || (decide (9 < (slen t2.1))))) (tj_cmp (p := (decide (t2.1 = (okS "")))) (da := (eS t2.1)) (db := (eS (okS ""))) (ev_fz (i := 1) rfl) ev_C (gEq_g (gd_str (n := 0)))) (fun hb3 => (tj_or (p := (decide ((sAt t2.1 0) = (okS "0")))) (q := (decide (9 < (slen t2.1)))) (tj_cmp (p := (decide ((sAt t2.1 0) = (okS "0")))) (da := (eS (sAt t2.1 0))) (db := (eS (okS "0"))) (ev_ixSN (s := t2.1) (p := 0) (ev_fz (i := 1) rfl) ev_C (by first | exact scQ | exact slen_pos (of_decide_eq_false (by assumption)) | (rw [ht2]; have h_ := parts_len thing; omega) | (rw [sChars_len, ht2]; have h_ := parts_len thing; omega) | exact scT /-2-/) (by first | exact scQ | exact slen_pos (of_decide_eq_false (by assumption)) | (rw [ht2]; have h_ := parts_len thing; omega) | (rw [sChars_len, ht2]; have h_ := parts_len thing; omega) | exact scT /-3-/)) ev_C (gEq_g (gd_str (n := 0)))) (fun hb4 => (tj_cmp (p := (decide (9 < (slen t2.1)))) (da := (eN (slen t2.1))) (db := (eN 9)) (ev_lenS (s := t2.1) (ev_fz (i := 1) rfl) (by first | exact scQ | exact slen_pos (of_decide_eq_false (by assumption)) | (rw [ht2]; have h_ := parts_len thing; omega) | (rw [sChars_len, ht2]; have h_ := parts_len thing; omega) | exact scT /-4-/)) ev_C gGt_nn))))) (fun hc5 => ?_) (fun hc5 => ?_)
    · show Sg [.fz (eS thing), .fz (eS t2.1), .fz (eS t2.2), .any] _ _ _
      exact sg_ret (v := false) ev_C leT roT
    · show Sg [.fz (eS thing), .fz (eS t2.1), .fz (eS t2.2), .any] _ _ _
      refine sg_skip ?_
      refine sg_last ?_
      exact sg_ret (v := (decide (((sChars t2.2).filter (fun (sign6 : OkS) => (!sIn sign6 (okS "abcdefghijklmnopqrstuvwxyz")))) = ([] : (List OkS))))) (ev_cmp (p := (decide (((sChars t2.2).filter (fun (sign6 : OkS) => (!sIn sign6 (okS "abcdefghijklmnopqrstuvwxyz")))) = ([] : (List OkS))))) (da := ((eL eS) ((sChars t2.2).filter (fun (sign6 : OkS) => (!sIn sign6 (okS "abcdefghijklmnopqrstuvwxyz")))))) (db := ((eL eS) ([] : (List OkS)))) (Ev.eq (ev_lc (enc := eS) (encB := eS) (xs := (sChars t2.2)) (p := (fun (sign6 : OkS) => (!sIn sign6 (okS "abcdefghijklmnopqrstuvwxyz")))) (fe := (fun (sign6 : OkS) => sign6)) (ew_val (d := (eS t2.2)) (ev_fz (i := 2) rfl) sq_txt) (by first | exact scQ | exact slen_pos (of_decide_eq_false (by assumption)) | (rw [ht2]; have h_ := parts_len thing; omega) | (rw [sChars_len, ht2]; have h_ := parts_len thing; omega) | exact scT /-5-/) (fun sign6 hx7 => ⟨_, tg_n, (tj_cmp (p := (!sIn sign6 (okS "abcdefghijklmnopqrstuvwxyz"))) (da := (eS sign6)) (db := (eS (okS "abcdefghijklmnopqrstuvwxyz"))) (ev_fz (i := 3) rfl) ev_C gNotIn_txt), (fun _ => leT), fun hp8 => ⟨_, _, (ev_fz (i := 3) rfl), leT⟩⟩)) (map_id_e _ _)) (ev_lst ea_nil) (gEq_g (gd_list (gd_str (n := 0))))) leT roT
def T_label_key (label : OkS) : (Int × OkS) :=
  Let ((T_parts_of label) : (OkS × OkS)) fun t1 => ((sInt t1.1), t1.2)
theorem tv_label_key (label : OkS) (hl : label ∈ LABK) : Ev [.fz (eS label)] f_label_key .val ((e2 eI eS) (T_label_key label)) [.fz (eS label)] := by
  have hk_ := keyK label hl
  have hk1_ := hk_.1
  unfold f_label_key
  refine ev_run (n := 1) (enc := (e2 eI eS)) (outs := (fun p_ : (Int × OkS) => [.fz (eS label), .any, .any])) (v := T_label_key label) ?_
  unfold b_label_key T_label_key
  show Sg [.fz (eS label), .any, .any] _ _ _
  refine sg_asg (d := ((e2 eS eS) (T_parts_of label))) (ev_call (tv_parts_of label (by first | exact scQ | (rw [ht1]; exact hk_.2.1) | (rw [ht1]; exact hk_.2.2) | exact scT /-1-/)) (ea_cons (da := (eS label)) (ev_fz (i := 0) rfl) ea_nil) rdT) (tg_t (tg_cons tg_n (tg_cons tg_n tg_nil))) ?_
  refine sg_gen (fun t1 : (OkS × OkS) => [.fz (eS label), .fz (eS t1.1), .fz (eS t1.2)]) (x := (T_parts_of label)) fun t1 ht1 => ?_
  refine sg_last ?_
  exact sg_ret (v := ((sInt t1.1), t1.2)) (ev_tup (ea_cons (da := (eI (sInt t1.1))) (ev_intS (s := t1.1) (ev_fz (i := 1) rfl) (by first | exact scQ | (rw [ht1]; exact hk_.2.1) | (rw [ht1]; exact hk_.2.2) | exact scT /-2-/) (by first | exact scQ | (rw [ht1]; exact hk_.2.1) | (rw [ht1]; exact hk_.2.2) | exact scT /-3-/)) (ea_cons (da := (eS t1.2)) (ev_fz (i := 2) rfl) ea_nil))) leT roT
theorem keyB : ∀ l ∈ LABK, 0 ≤ (T_label_key l).1 ∧ (T_label_key l).1 ≤ 100000000 := by decide +kernel
theorem nextK : ∀ l ∈ LABX, sStr ((T_label_key l).1 + 1) ∈ [okS "2", okS "3", okS "4", okS "5", okS "10", okS "11", okS "12", okS "121", okS "100000000"] := by decide +kernel
theorem able_ok : ∀ l ∈ LABX, ∀ x ∈ [sStr ((T_label_key l).1 + 1), sAdd l (okS "a")], x ∈ LABK := fun l hl x hx => by
  rcases List.mem_cons.mp hx with z | z
  · rw [z]; exact List.mem_append_left _ (List.mem_append_right _ (nextK l hl))
  · rw [List.mem_singleton.mp z]; exact List.mem_append_right _ (List.mem_map.mpr ⟨l, hl, rfl⟩)
theorem maxB (ls : List OkS) (h : ∀ l ∈ ls, l ∈ LABX) : 0 ≤ maxL ([(0 : Int)] ++ ls.map fun l => (T_label_key l).1) ∧ maxL ([(0 : Int)] ++ ls.map fun l => (T_label_key l).1) ≤ 100000000 := by
  have h1 := maxL_spec (ns := [(0 : Int)] ++ ls.map fun l => (T_label_key l).1) (by simp)
  refine ⟨h1.2 0 (by simp), ?_⟩
  rcases List.mem_append.mp h1.1 with z | z
  · rw [List.mem_singleton.mp z]; decide
  · obtain ⟨l, hl, e⟩ := List.mem_map.mp z
    rw [← e]; exact (keyB l (LABX_K (h l hl))).2
def T_label_behind (labels : (List OkS)) (label : OkS) : (Option OkS) :=
  Let ((labels.filter (fun (other1 : OkS) => (ltG (e2 eI eS) (T_label_key label) (T_label_key other1)))) : (List OkS)) fun later4 => Let ((T_label_key label) : (Int × OkS)) fun t5 => seqO (foldO (fun (s6 : (Unit)) (able8 : OkS) => (if ((decide (later4 = ([] : (List OkS)))) || (ltG (e2 eI eS) (T_label_key able8) (T_label_key (later4.getD 0 dS0)))) = true then (.rt (some able8)) else (.nx ()) : Ou (Option OkS) (Unit))) [(sStr (t5.1 + (1 : Int))), (sAdd label (okS "a"))] ()) id fun (s6 : (Unit)) => none
theorem tv_label_behind (labels : (List OkS)) (label : OkS) (hls : ∀ l ∈ labels, l ∈ LABX) (hn : labels.length ≤ 8) (hl : label ∈ LABX) : Ev [.fz ((eT eS) labels), .fz (eS label)] f_label_behind .val ((eO eS) (T_label_behind labels label)) [.fz ((eT eS) labels), .fz (eS label)] := by
  unfold f_label_behind
  refine ev_run (n := 2) (enc := (eO eS)) (outs := (fun p_ : (Option OkS) => [.fz ((eT eS) labels), .fz (eS label), .any, .any, .any, .any, .any])) (v := T_label_behind labels label) ?_
  unfold b_label_behind T_label_behind
  show Sg [.fz ((eT eS) labels), .fz (eS label), .any, .any, .any, .any, .any] _ _ _
  refine sg_set (d := ((eL eS) (labels.filter (fun (other1 : OkS) => (ltG (e2 eI eS) (T_label_key label) (T_label_key other1)))))) (Ev.eq (ev_lc (enc := eS) (encB := eS) (xs := labels) (p := (fun (other1 : OkS) => (ltG (e2 eI eS) (T_label_key label) (T_label_key other1)))) (fe := (fun (other1 : OkS) => other1)) (ew_val (d := ((eT eS) labels)) (ev_fz (i := 0) rfl) rfl) (by first | exact scQ | exact LABX_K (hls _ (by assumption)) | exact LABX_K hl | (rw [ht5]; have h_ := keyB _ (LABX_K hl); omega) | (have h_ := (keyX label hl).1; have h2_ := alen; omega) | exact hab_ | exact List.length_pos_iff.mpr (of_decide_eq_false (by assumption)) | exact hlk _ (getD_mem' _ (List.length_pos_iff.mpr (of_decide_eq_false (by assumption)))) | exact scT /-3-/) (fun other1 hx2 => ⟨_, tg_n, (tj_cmp (p := (ltG (e2 eI eS) (T_label_key label) (T_label_key other1))) (da := ((e2 eI eS) (T_label_key other1))) (db := ((e2 eI eS) (T_label_key label))) (ev_call (tv_label_key other1 (by first | exact scQ | exact LABX_K (hls _ (by assumption)) | exact LABX_K hl | (rw [ht5]; have h_ := keyB _ (LABX_K hl); omega) | (have h_ := (keyX label hl).1; have h2_ := alen; omega) | exact hab_ | exact List.length_pos_iff.mpr (of_decide_eq_false (by assumption)) | exact hlk _ (getD_mem' _ (List.length_pos_iff.mpr (of_decide_eq_false (by assumption)))) | exact scT /-1-/)) (ea_cons (da := (eS other1)) (ev_fz (i := 3) rfl) ea_nil) rdT) (ev_call (tv_label_key label (by first | exact scQ | exact LABX_K (hls _ (by assumption)) | exact LABX_K hl | (rw [ht5]; have h_ := keyB _ (LABX_K hl); omega) | (have h_ := (keyX label hl).1; have h2_ := alen; omega) | exact hab_ | exact List.length_pos_iff.mpr (of_decide_eq_false (by assumption)) | exact hlk _ (getD_mem' _ (List.length_pos_iff.mpr (of_decide_eq_false (by assumption)))) | exact scT /-2-/)) (ea_cons (da := (eS label)) (ev_fz (i := 1) rfl) ea_nil) rdT) (gGt_G (enc := (e2 eI eS)) (so_2 (so_int (n := 0)) (so_str (n := 0))) (fun _ _ h => nomatch h))), (fun _ => leT), fun hp3 => ⟨_, _, (ev_fz (i := 3) rfl), leT⟩⟩)) (map_id_e _ _)) ?_
  refine sg_gen (fun later4 : (List OkS) => [.fz ((eT eS) labels), .fz (eS label), .ow ((eL eS) later4), .any, .any, .any, .any]) (x := (labels.filter (fun (other1 : OkS) => (ltG (e2 eI eS) (T_label_key label) (T_label_key other1))))) fun later4 hlater4 => ?_
  have hlk : ∀ x ∈ later4, x ∈ LABK := fun x hx => by rw [hlater4] at hx; exact LABX_K (hls _ (List.mem_filter.mp hx).1)
  refine sg_asg (d := ((e2 eI eS) (T_label_key label))) (ev_call (tv_label_key label (by first | exact scQ | exact LABX_K (hls _ (by assumption)) | exact LABX_K hl | (rw [ht5]; have h_ := keyB _ (LABX_K hl); omega) | (have h_ := (keyX label hl).1; have h2_ := alen; omega) | exact hab_ | exact List.length_pos_iff.mpr (of_decide_eq_false (by assumption)) | exact hlk _ (getD_mem' _ (List.length_pos_iff.mpr (of_decide_eq_false (by assumption)))) | exact scT /-4-/)) (ea_cons (da := (eS label)) (ev_fz (i := 1) rfl) ea_nil) rdT) (tg_t (tg_cons tg_n (tg_cons tg_n tg_nil))) ?_
  refine sg_gen (fun t5 : (Int × OkS) => [.fz ((eT eS) labels), .fz (eS label), .ow ((eL eS) later4), .any, .fz (eI t5.1), .fz (eS t5.2), .any]) (x := (T_label_key label)) fun t5 ht5 => ?_
  refine sg_forO (step := (fun (s6 : (Unit)) (able8 : OkS) => (if ((decide (later4 = ([] : (List OkS)))) || (ltG (e2 eI eS) (T_label_key able8) (T_label_key (later4.getD 0 dS0)))) = true then (.rt (some able8)) else (.nx ()) : Ou (Option OkS) (Unit)))) (inj := id) (hP := pr_out) (enc := eS) (xs := [(sStr (t5.1 + (1 : Int))), (sAdd label (okS "a"))]) (s0 := ()) (fun (s6 : (Unit)) => [.fz ((eT eS) labels), .fz (eS label), .ow ((eL eS) later4), .any, .fz (eI t5.1), .fz (eS t5.2), .any]) (fun (k : Nat) (s6 : (Unit)) => True)  (ew_val (d := ((eT eS) [(sStr (t5.1 + (1 : Int))), (sAdd label (okS "a"))])) (ev_tup (ea_cons (da := (eS (sStr (t5.1 + (1 : Int))))) (ev_strI (x := (t5.1 + (1 : Int))) (ev_addI (x := t5.1) (y := (1 : Int)) (ev_fz (i := 4) rfl) ev_C) (by first | exact scQ | exact LABX_K (hls _ (by assumption)) | exact LABX_K hl | (rw [ht5]; have h_ := keyB _ (LABX_K hl); omega) | (have h_ := (keyX label hl).1; have h2_ := alen; omega) | exact hab_ | exact List.length_pos_iff.mpr (of_decide_eq_false (by assumption)) | exact hlk _ (getD_mem' _ (List.length_pos_iff.mpr (of_decide_eq_false (by assumption)))) | exact scT /-5-/)) (ea_cons (da := (eS (sAdd label (okS "a")))) (ev_addS (s := label) (t := (okS "a")) (ev_fz (i := 1) rfl) ev_C (by first | exact scQ | exact LABX_K (hls _ (by assumption)) | exact LABX_K hl | (rw [ht5]; have h_ := keyB _ (LABX_K hl); omega) | (have h_ := (keyX label hl).1; have h2_ := alen; omega) | exact hab_ | exact List.length_pos_iff.mpr (of_decide_eq_false (by assumption)) | exact hlk _ (getD_mem' _ (List.length_pos_iff.mpr (of_decide_eq_false (by assumption)))) | exact scT /-6-/)) ea_nil))) rfl) leT (by trivial) (fun k7 able8 s6 hk9 hI10 => ⟨_, tg_n, ?_⟩) (by intro k7 able8 s6 s_ hk9 hI10 hs_; trivial) (fun s6 hI10 => ?_)
  · show Sg [.fz ((eT eS) labels), .fz (eS label), .ow ((eL eS) later4), .any, .fz (eI t5.1), .fz (eS t5.2), .fz (eS able8)] _ _ _
    have hlthk9 := lt_of_get hk9
    have hmhk9 := List.mem_of_getElem? hk9
    have hab_ := able_ok label hl _ (by rw [← ht5]; exact hmhk9)
    refine sg_last ?_
    refine sg_if (tj_or (p := (decide (later4 = ([] : (List OkS))))) (q := (ltG (e2 eI eS) (T_label_key able8) (T_label_key (later4.getD 0 dS0)))) (tj_cmp (p := (decide (later4 = ([] : (List OkS))))) (da := ((eL eS) later4)) (db := ((eL eS) ([] : (List OkS)))) (ev_ow (i := 2) rfl) (ev_lst ea_nil) (gEq_g (gd_list (gd_str (n := 0))))) (fun hb11 => (tj_cmp (p := (ltG (e2 eI eS) (T_label_key able8) (T_label_key (later4.getD 0 dS0)))) (da := ((e2 eI eS) (T_label_key able8))) (db := ((e2 eI eS) (T_label_key (later4.getD 0 dS0)))) (ev_call (tv_label_key able8 (by first | exact scQ | exact LABX_K (hls _ (by assumption)) | exact LABX_K hl | (rw [ht5]; have h_ := keyB _ (LABX_K hl); omega) | (have h_ := (keyX label hl).1; have h2_ := alen; omega) | exact hab_ | exact List.length_pos_iff.mpr (of_decide_eq_false (by assumption)) | exact hlk _ (getD_mem' _ (List.length_pos_iff.mpr (of_decide_eq_false (by assumption)))) | exact scT /-7-/)) (ea_cons (da := (eS able8)) (ev_fz (i := 6) rfl) ea_nil) rdT) (ev_call (tv_label_key (later4.getD 0 dS0) (by first | exact scQ | exact LABX_K (hls _ (by assumption)) | exact LABX_K hl | (rw [ht5]; have h_ := keyB _ (LABX_K hl); omega) | (have h_ := (keyX label hl).1; have h2_ := alen; omega) | exact hab_ | exact List.length_pos_iff.mpr (of_decide_eq_false (by assumption)) | exact hlk _ (getD_mem' _ (List.length_pos_iff.mpr (of_decide_eq_false (by assumption)))) | exact scT /-9-/)) (ea_cons (da := (eS (later4.getD 0 dS0))) (ev_ixLN dS0 (enc := eS) (xs := later4) (p := 0) (ev_ow (i := 2) rfl) ev_C (by first | exact scQ | exact LABX_K (hls _ (by assumption)) | exact LABX_K hl | (rw [ht5]; have h_ := keyB _ (LABX_K hl); omega) | (have h_ := (keyX label hl).1; have h2_ := alen; omega) | exact hab_ | exact List.length_pos_iff.mpr (of_decide_eq_false (by assumption)) | exact hlk _ (getD_mem' _ (List.length_pos_iff.mpr (of_decide_eq_false (by assumption)))) | exact scT /-8-/)) ea_nil) rdT) (gLt_G (enc := (e2 eI eS)) (so_2 (so_int (n := 0)) (so_str (n := 0))) (fun _ _ h => nomatch h))))) (fun hc12 => ?_) (fun hc12 => ?_)
    · show Sg [.fz ((eT eS) labels), .fz (eS label), .ow ((eL eS) later4), .any, .fz (eI t5.1), .fz (eS t5.2), .fz (eS able8)] _ _ _
      exact sg_retO (v := (some able8)) (ev_fz (i := 6) rfl) leT roT
    · show Sg [.fz ((eT eS) labels), .fz (eS label), .ow ((eL eS) later4), .any, .fz (eI t5.1), .fz (eS t5.2), .fz (eS able8)] _ _ _
      refine sg_skip ?_
      exact sg_passO leT
  show Sg [.fz ((eT eS) labels), .fz (eS label), .ow ((eL eS) later4), .any, .fz (eI t5.1), .fz (eS t5.2), .any] _ _ _
  refine sg_last ?_
  exact sg_ret (v := none) ev_C leT roT
def T_next_label (labels : (List OkS)) : OkS :=
  (sStr ((maxL (([(0 : Int)] : (List Int)) ++ (labels.map (fun (label1 : OkS) => (T_label_key label1).1)))) + (1 : Int)))
theorem tv_next_label (labels : (List OkS)) (hls : ∀ l ∈ labels, l ∈ LABX) (hn : labels.length ≤ 8) : Ev [.fz ((eT eS) labels)] f_next_label .val (eS (T_next_label labels)) [.fz ((eT eS) labels)] := by
  unfold f_next_label
  refine ev_run (n := 1) (enc := eS) (outs := (fun p_ : OkS => [.fz ((eT eS) labels), .any])) (v := T_next_label labels) ?_
  unfold b_next_label T_next_label
  show Sg [.fz ((eT eS) labels), .any] _ _ _
  refine sg_last ?_
  exact sg_ret (v := (sStr ((maxL (([(0 : Int)] : (List Int)) ++ (labels.map (fun (label1 : OkS) => (T_label_key label1).1)))) + (1 : Int)))) (ev_strI (x := ((maxL (([(0 : Int)] : (List Int)) ++ (labels.map (fun (label1 : OkS) => (T_label_key label1).1)))) + (1 : Int))) (ev_addI (x := (maxL (([(0 : Int)] : (List Int)) ++ (labels.map (fun (label1 : OkS) => (T_label_key label1).1))))) (y := (1 : Int)) (ev_maxL (ns := (([(0 : Int)] : (List Int)) ++ (labels.map (fun (label1 : OkS) => (T_label_key label1).1)))) (ev_addL (enc := eI) (xs := ([(0 : Int)] : (List Int))) (ys := (labels.map (fun (label1 : OkS) => (T_label_key label1).1))) (ev_lst (ea_cons (da := (eI (0 : Int))) ev_C ea_nil)) (ev_lcY (enc := eS) (encB := eI) (xs := labels) (fe := (fun (label1 : OkS) => (T_label_key label1).1)) (ew_val (d := ((eT eS) labels)) (ev_fz (i := 0) rfl) rfl) (by first | exact scQ | exact LABX_K (hls _ (by assumption)) | (intro e_; simp at e_; done) | (have h_ := maxB labels hls; omega) | exact scT /-2-/) (fun label1 hx2 => ⟨_, tg_n, _, _, (ev_ixC (d := ((e2 eI eS) (T_label_key label1))) (d' := (eI ((T_label_key label1).1))) (ev_call (tv_label_key label1 (by first | exact scQ | exact LABX_K (hls _ (by assumption)) | (intro e_; simp at e_; done) | (have h_ := maxB labels hls; omega) | exact scT /-1-/)) (ea_cons (da := (eS label1)) (ev_fz (i := 1) rfl) ea_nil) rdT) rfl), leT⟩)) (by first | exact scQ | exact LABX_K (hls _ (by assumption)) | (intro e_; simp at e_; done) | (have h_ := maxB labels hls; omega) | exact scT /-3-/)) (by first | exact scQ | exact LABX_K (hls _ (by assumption)) | (intro e_; simp at e_; done) | (have h_ := maxB labels hls; omega) | exact scT /-4-/)) ev_C) (by first | exact scQ | exact LABX_K (hls _ (by assumption)) | (intro e_; simp at e_; done) | (have h_ := maxB labels hls; omega) | exact scT /-5-/)) leT roT
theorem ev_outF {d : D} {m : M Rs} (h : m [.fz d] = .ok (.fz (.bool false)) [.fz d]) : Ev [.fz d] m .val (.bool false) [.fz d] := ⟨trivial, fun ρ e => by
  obtain rfl : ρ = [.fz d] := by
    cases ρ with
    | nil => exact e.elim
    | cons s ρ =>
      cases ρ with
      | nil => rw [show s = .fz d from e.1]
      | cons _ _ => exact e.2.elim
  exact ⟨_, _, h, rfl, rfl, trivial⟩⟩
def ThOk : Th → Prop
  | .s x => slen x ≤ 20
  | _ => True
def T_is_label : Th → Bool
  | .s x => T_is_label_S x
  | _ => false
theorem tv_is_label (thing : Th) (hz : ThOk thing) : Ev [.fz (eTh thing)] f_is_label .val (eB (T_is_label thing)) [.fz (eTh thing)] := match thing, hz with
  | .s x, hz => tv_is_label_S x hz
  | .n, _ => ev_outF rfl
  | .i k, _ => ev_outF rfl
  | .b v, _ => ev_outF rfl
  | .t xs, _ => ev_outF rfl
  | .l xs, _ => ev_outF rfl
def T__law_is_label : Th → Bool
  | .s x => T__law_is_label_S x
  | _ => false
theorem tv__law_is_label (thing : Th) (hz : ThOk thing) : Ev [.fz (eTh thing)] f__law_is_label .val (eB (T__law_is_label thing)) [.fz (eTh thing)] := match thing, hz with
  | .s x, hz => tv__law_is_label_S x hz
  | .n, _ => ev_outF rfl
  | .i k, _ => ev_outF rfl
  | .b v, _ => ev_outF rfl
  | .t xs, _ => ev_outF rfl
  | .l xs, _ => ev_outF rfl
theorem keyEq : ∀ l ∈ LABX, T_label_key l = T__law_key l := by decide +kernel
theorem keyN : ∀ l ∈ LABX, T_label_key (sStr ((T_label_key l).1 + 1)) = ((T_label_key l).1 + 1, okS "") := by decide +kernel
theorem keyA : ∀ l ∈ LABX, T_label_key (sAdd l (okS "a")) = ((T_label_key l).1, sAdd (T_label_key l).2 (okS "a")) := by decide +kernel
theorem keyY : ∀ l ∈ LABX, slen (T__law_key l).2 ≤ 10 ∧ 0 ≤ (T__law_key l).1 ∧ (T__law_key l).1 ≤ 100000000 := by decide +kernel
abbrev MORE : List OkS := [okS "0", okS "a", okS "A", okS "-", okS " ", okS "1", okS "", okS "."]
abbrev sameL (x : OkS) : Bool := decide (slen x ≤ 20) && decide (T_is_label_S x = T__law_is_label_S x)
theorem th1 : ∀ l ∈ LABX, ∀ m ∈ MORE, ∀ k ∈ List.range (slen l + 1), sameL (sAdd (sAdd (sTake l k) m) (sDrop l k)) = true := by decide +kernel
theorem th2 : ∀ l ∈ LABX, sameL l = true ∧ sameL (sAdd (okS "0") l) = true ∧ sameL (sDrop l 1) = true ∧ sameL (sAdd l (okS "1")) = true := by decide +kernel
theorem th3 : ∀ l ∈ ([okS "1234567890", okS "123456789z", okS "", okS "a"] : List OkS), sameL l = true := by decide +kernel
theorem label_inX (ds : List Int) (i : Nat) : (T__law_label ds i).1 ∈ LABX := by
  unfold T__law_label
  exact List.mem_flatMap.mpr ⟨_, pkT_mem (by simp), List.mem_map.mpr ⟨_, pkT_mem (by simp), rfl⟩⟩
theorem sameT {x : OkS} (h : sameL x = true) : ThOk (.s x) ∧ T_is_label (.s x) = T__law_is_label (.s x) := by
  unfold sameL at h
  rw [Bool.and_eq_true] at h
  exact ⟨show slen x ≤ 20 from of_decide_eq_true h.1, of_decide_eq_true h.2⟩
theorem things_ok {l m : OkS} {k : Nat} (hl : l ∈ LABX) (hm : m ∈ MORE) (hk : k < slen l + 1) : ∀ t ∈ [(Th.s l), (Th.s (sAdd (okS "0") l)), (Th.s (sAdd (sAdd (sTake l k) m) (sDrop l k))), (Th.s (sDrop l 1)), (Th.s (sAdd l (okS "1"))), (Th.s (okS "1234567890")), (Th.s (okS "123456789z")), (Th.s (okS "")), (Th.s (okS "a")), Th.n, (Th.i (3 : Int)), (Th.b true), (Th.t [(okS "1")]), (Th.l ([(okS "1")] : (List OkS)))], ThOk t ∧ T_is_label t = T__law_is_label t := fun t ht => by
  obtain ⟨a1, a2, a3, a4⟩ := th2 l hl
  simp only [List.mem_cons, List.not_mem_nil, or_false] at ht
  rcases ht with z | z | z | z | z | z | z | z | z | z | z | z | z | z <;> subst z
  · exact sameT a1
  · exact sameT a2
  · exact sameT (th1 l hl m hm k (List.mem_range.mpr hk))
  · exact sameT a3
  · exact sameT a4
  · exact sameT (th3 _ (by simp))
  · exact sameT (th3 _ (by simp))
  · exact sameT (th3 _ (by simp))
  · exact sameT (th3 _ (by simp))
  all_goals exact ⟨trivial, rfl⟩
theorem next_eq {ls : List OkS} (h : ∀ l ∈ ls, l ∈ LABX) : T_next_label ls = sStr (maxL (([(0 : Int)] : (List Int)) ++ (ls.map (fun (label47 : OkS) => (T__law_key label47).1))) + (1 : Int)) := by
  unfold T_next_label
  rw [List.map_congr_left (g := fun l => (T__law_key l).1) fun l hl => by rw [keyEq l (h l hl)]]
theorem keys_eq {ls : List OkS} (h : ∀ l ∈ ls, l ∈ LABX) : ls.map (fun l => T_label_key l) = ls.map fun l => T__law_key l := List.map_congr_left fun l hl => keyEq l (h l hl)
theorem behind_eq {ls : List OkS} {l : OkS} (h : ∀ l ∈ ls, l ∈ LABX) (hl : l ∈ LABX) {later : List (Int × OkS)} (hla : later = (ls.filter fun o => ltG (e2 eI eS) ((T__law_key l).1, (T__law_key l).2) (T__law_key o)).map fun o => T__law_key o) :
    T_label_behind ls l = if (decide (later = []) || ltG (e2 eI eS) ((T__law_key l).1 + 1, okS "") (later.getD 0 (0, dS0))) = true then some (sStr ((T__law_key l).1 + 1)) else if ltG (e2 eI eS) ((T__law_key l).1, sAdd (T__law_key l).2 (okS "a")) (later.getD 0 (0, dS0)) = true then some (sAdd l (okS "a")) else none := by
  have e1 : (ls.filter fun o => ltG (e2 eI eS) (T_label_key l) (T_label_key o)) = ls.filter fun o => ltG (e2 eI eS) ((T__law_key l).1, (T__law_key l).2) (T__law_key o) := List.filter_congr fun o ho => by rw [keyEq o (h o ho), keyEq l hl]
  unfold T_label_behind Let
  dsimp only
  rw [e1]
  generalize hf : (ls.filter fun o => ltG (e2 eI eS) ((T__law_key l).1, (T__law_key l).2) (T__law_key o)) = fl at hla
  have hfl : ∀ x ∈ fl, x ∈ LABX := fun x hx => by rw [← hf] at hx; exact h x (List.mem_filter.mp hx).1
  have en : decide (fl = []) = decide (later = []) := by rw [hla]; exact decide_eq_decide.mpr (by simp)
  have k1 := keyN l hl
  have k2 := keyA l hl
  rw [en]
  unfold foldO
  by_cases c : later = []
  · simp only [c, decide_true, Bool.true_or, if_true]
    rw [keyEq l hl]; rfl
  · have e0 : T_label_key (fl.getD 0 dS0) = later.getD 0 (0, dS0) := by
      cases fl with
      | nil => exact absurd hla c
      | cons x fl =>
        rw [hla]
        exact keyEq x (hfl x (by simp))
    rw [k1, e0, keyEq l hl]
    simp only [decide_eq_false c, Bool.false_or]
    by_cases c1 : ltG (e2 eI eS) ((T__law_key l).1 + 1, okS "") (later.getD 0 (0, dS0)) = true
    · rw [if_pos c1, if_pos c1]; rfl
    · rw [if_neg c1, if_neg c1]
      dsimp only
      unfold foldO
      rw [k2, keyEq l hl]
      by_cases c2 : ltG (e2 eI eS) ((T__law_key l).1, sAdd (T__law_key l).2 (okS "a")) (later.getD 0 (0, dS0)) = true
      · rw [if_pos c2, if_pos c2]; rfl
      · rw [if_neg c2, if_neg c2]; rfl
theorem srt_in {ls : List OkS} (h : ∀ l ∈ ls, l ∈ LABX) : ∀ l ∈ (sortG (e2 (e2 eI eS) eS) (ls.map (fun (label16 : OkS) => ((T__law_key label16), label16)))).map (fun (pair19 : ((Int × OkS) × OkS)) => pair19.2), l ∈ LABX := fun l hl => by
  obtain ⟨q, hq, rfl⟩ := List.mem_map.mp hl
  obtain ⟨x, hx, rfl⟩ := List.mem_map.mp (sortG_mem.mp hq)
  exact h x hx
theorem maxB2 {ls : List OkS} (h : ∀ l ∈ ls, l ∈ LABX) : 0 ≤ maxL (([(0 : Int)] : (List Int)) ++ (ls.map (fun (label47 : OkS) => (T__law_key label47).1))) ∧ maxL (([(0 : Int)] : (List Int)) ++ (ls.map (fun (label47 : OkS) => (T__law_key label47).1))) ≤ 100000000 := by
  have := maxB ls h
  rw [List.map_congr_left (g := fun l => (T__law_key l).1) fun l hl => by rw [keyEq l (h l hl)]] at this
  exact this
theorem moreL : ∀ m ∈ MORE, slen m ≤ 5 := by decide +kernel
theorem oneL : slen (okS "0") ≤ 5 ∧ slen (okS "1") ≤ 5 := by decide +kernel
theorem sAdd_len (a b : OkS) : slen (sAdd a b) = slen a + slen b := by
  unfold slen sAdd
  rw [mkS_chs (okL_iff.mpr fun c hc => (List.mem_append.mp hc).elim (okL_iff.mp (chs_ok a) c) (okL_iff.mp (chs_ok b) c)), List.length_append]
--LAWSTART
theorem law_tv (script : List Int) (hs : script.length ≤ 63) : ∃ E_, Ev [.fz (eL eI script)] f_law .val (eB true) E_ := by
  unfold f_law
  refine ⟨_, ev_run (n := 1) (enc := eB) (outs := fun _ => [.any, .any, .any, .any, .any, .any, .any, .any, .any, .any, .any, .any, .any, .any, .any, .any]) (v := true) ?_⟩
  unfold b_law
  show Sg [.fz ((eL eI) script), .any, .any, .any, .any, .any, .any, .any, .any, .any, .any, .any, .any, .any, .any, .any] _ _ _
  refine sg_w (script := script) hs (by decide) rfl ltT fun ds => ?_
  show Sg [.fz ((eL eI) script), .ow (Wd ds ((0 : Nat) : Int)), .any, .any, .any, .any, .any, .any, .any, .any, .any, .any, .any, .any, .any, .any] _ _ _
  refine sg_forX (enc := eN) (xs := (List.range 4)) (fun (s1 : (Nat)) => [.fz ((eL eI) script), .ow (Wd ds ((s1 : Nat) : Int)), .any, .any, .any, .any, .any, .any, .any, .any, .any, .any, .any, .any, .any, .any]) 0 (fun (k : Nat) (s1 : (Nat)) => True) (ew_rgN (n := 4) ev_C (by first | exact scQ | exact hl2_ _ (by assumption) | (rw [List.length_map]; omega) | (rw [sortG_len, List.length_map]; omega) | exact LABX_K (hlx _ (by assumption)) | exact hlx _ (by assumption) | (simp only [List.length_cons, List.length_nil]; omega) | exact hlb_ | exact hlx | exact List.length_pos_iff.mpr (fun e_ => by simp_all) | (rw [ht35]; omega) | (rw [ht35]; have h2_ := alen; omega) | (have h2_ := alen; omega) | (rw [List.length_map]; simp only [List.length_cons, List.length_nil]; omega) | (intro e_; simp at e_; done) | (intro e_; cases e_; done) | (have h3_ := oneL; omega) | (have h3_ := slen_takeN label50 k52.toNat; omega) | (have h3_ := slen_takeN label50 k52.toNat; have h4_ := slen_dropN label50 k52.toNat; rw [sAdd_len]; omega) | exact hth_.1 | (have h5_ := hmx_.1; have h6_ := hmx_.2; omega) /-1-/)) leT (by trivial) (fun k2 turn3 s1 hk4 hI5 => ⟨_, tg_n, ?_⟩) (fun s1 hI5 => ?_)
  · show Sg [.fz ((eL eI) script), .ow (Wd ds ((s1 : Nat) : Int)), .fz (eN turn3), .any, .any, .any, .any, .any, .any, .any, .any, .any, .any, .any, .any, .any] _ _ _
    have hlthk4 := lt_of_get hk4
    have hmhk4 := List.mem_of_getElem? hk4
    refine sg_set (d := ((eL eS) ([] : (List OkS)))) (ev_lst ea_nil) ?_
    refine sg_gen0 (fun labels6 : (List OkS) => [.fz ((eL eI) script), .ow (Wd ds ((s1 : Nat) : Int)), .fz (eN turn3), .ow ((eL eS) labels6), .any, .any, .any, .any, .any, .any, .any, .any, .any, .any, .any, .any]) (x := ([] : (List OkS))) fun labels6 hlabels6 => ?_
    have hlx : ∀ l ∈ labels6, l ∈ LABX := by first | (rw [hlabels6]; intro l z; cases z; done) | (rw [hlabels6]; exact srt_in hl2_) | (rw [hlabels6]; exact fun l z => (List.mem_append.mp z).elim (hI2_ l) (fun y => by rw [List.mem_singleton.mp y]; exact hll))
    have hln : labels6.length ≤ 7 := by first | (rw [hlabels6]; exact Nat.zero_le _) | (rw [hlabels6, List.length_map, sortG_len, List.length_map]; omega) | (rw [hlabels6, List.length_append]; simp only [List.length_cons, List.length_nil]; omega)
    have bx2 := nx_bd ds s1 (8 : Int) scT
    refine sg_for0 (step := (fun (s7 : (Nat × (List OkS))) (k9 : Nat) => Let ((T__law_label ds s7.1 ).1 : OkS) fun label12 => Let ((T__law_label ds s7.1 ).2 : Nat) fun i13 => if (!decide (label12 ∈ s7.2)) = true then Let ((s7.2 ++ [label12]) : (List OkS)) fun labels15 => (i13, labels15) else (i13, s7.2))) (enc := eN) (xs := (List.range (nx ds s1 (8 : Int)).toNat)) (s0 := (s1 + 1, labels6)) (fun (s7 : (Nat × (List OkS))) => [.fz ((eL eI) script), .ow (Wd ds ((s7.1 : Nat) : Int)), .fz (eN turn3), .ow ((eL eS) s7.2), .any, .any, .any, .any, .any, .any, .any, .any, .any, .any, .any, .any]) (fun (k : Nat) (s7 : (Nat × (List OkS))) => s7.2.length ≤ k ∧ ∀ l ∈ s7.2, l ∈ LABX) (ew_rgI (x := (nx ds s1 (8 : Int))) (ev_call (tv_next ds s1 (8 : Int) (by first | exact scQ | exact hl2_ _ (by assumption) | (rw [List.length_map]; omega) | (rw [sortG_len, List.length_map]; omega) | exact LABX_K (hlx _ (by assumption)) | exact hlx _ (by assumption) | (simp only [List.length_cons, List.length_nil]; omega) | exact hlb_ | exact hlx | exact List.length_pos_iff.mpr (fun e_ => by simp_all) | (rw [ht35]; omega) | (rw [ht35]; have h2_ := alen; omega) | (have h2_ := alen; omega) | (rw [List.length_map]; simp only [List.length_cons, List.length_nil]; omega) | (intro e_; simp at e_; done) | (intro e_; cases e_; done) | (have h3_ := oneL; omega) | (have h3_ := slen_takeN label50 k52.toNat; omega) | (have h3_ := slen_takeN label50 k52.toNat; have h4_ := slen_dropN label50 k52.toNat; rw [sAdd_len]; omega) | exact hth_.1 | (have h5_ := hmx_.1; have h6_ := hmx_.2; omega) /-2-/)) (ea_consO (i := 1) rfl (ea_cons (da := .int (8 : Int)) ev_C ea_nil)) rdT) (by first | exact scQ | exact hl2_ _ (by assumption) | (rw [List.length_map]; omega) | (rw [sortG_len, List.length_map]; omega) | exact LABX_K (hlx _ (by assumption)) | exact hlx _ (by assumption) | (simp only [List.length_cons, List.length_nil]; omega) | exact hlb_ | exact hlx | exact List.length_pos_iff.mpr (fun e_ => by simp_all) | (rw [ht35]; omega) | (rw [ht35]; have h2_ := alen; omega) | (have h2_ := alen; omega) | (rw [List.length_map]; simp only [List.length_cons, List.length_nil]; omega) | (intro e_; simp at e_; done) | (intro e_; cases e_; done) | (have h3_ := oneL; omega) | (have h3_ := slen_takeN label50 k52.toNat; omega) | (have h3_ := slen_takeN label50 k52.toNat; have h4_ := slen_dropN label50 k52.toNat; rw [sAdd_len]; omega) | exact hth_.1 | (have h5_ := hmx_.1; have h6_ := hmx_.2; omega) /-3-/) (by first | exact scQ | exact hl2_ _ (by assumption) | (rw [List.length_map]; omega) | (rw [sortG_len, List.length_map]; omega) | exact LABX_K (hlx _ (by assumption)) | exact hlx _ (by assumption) | (simp only [List.length_cons, List.length_nil]; omega) | exact hlb_ | exact hlx | exact List.length_pos_iff.mpr (fun e_ => by simp_all) | (rw [ht35]; omega) | (rw [ht35]; have h2_ := alen; omega) | (have h2_ := alen; omega) | (rw [List.length_map]; simp only [List.length_cons, List.length_nil]; omega) | (intro e_; simp at e_; done) | (intro e_; cases e_; done) | (have h3_ := oneL; omega) | (have h3_ := slen_takeN label50 k52.toNat; omega) | (have h3_ := slen_takeN label50 k52.toNat; have h4_ := slen_dropN label50 k52.toNat; rw [sAdd_len]; omega) | exact hth_.1 | (have h5_ := hmx_.1; have h6_ := hmx_.2; omega) /-4-/)) leT (by exact ⟨by rw [hlabels6]; exact Nat.zero_le _, fun l z => by rw [hlabels6] at z; cases z⟩) (fun k8 k9 s7 hk10 hI11 => ⟨_, tg_n, ?_⟩) (by intro k8 k9 s7 hk10 hI11; (have h1_ := (hI11).1; have h2_ := (hI11).2; unfold Let; dsimp only; split; exact ⟨by rw [List.length_append]; exact Nat.succ_le_succ h1_, fun l z => (List.mem_append.mp z).elim (h2_ l) (fun y => by rw [List.mem_singleton.mp y]; exact label_inX _ _)⟩; exact ⟨Nat.le_succ_of_le h1_, h2_⟩)) (fun s7 hs7 hI11 => ?_)
    · show Sg [.fz ((eL eI) script), .ow (Wd ds ((s7.1 : Nat) : Int)), .fz (eN turn3), .ow ((eL eS) s7.2), .fz (eN k9), .any, .any, .any, .any, .any, .any, .any, .any, .any, .any, .any] _ _ _
      have hlthk10 := lt_of_get hk10
      have hmhk10 := List.mem_of_getElem? hk10
      have hlk_ := hlthk10
      rw [List.length_range] at hlk_
      have hI1_ := (hI11).1
      have hI2_ := (hI11).2
      refine sg_set (d := (eS ((T__law_label ds s7.1 ).1))) (ev_call (tv__law_label ds s7.1  ) (ea_consO (i := 1) rfl ea_nil) rdT) ?_
      refine sg_gen (fun label12 : OkS => [.fz ((eL eI) script), .ow (Wd ds (((T__law_label ds s7.1 ).2 : Nat) : Int)), .fz (eN turn3), .ow ((eL eS) s7.2), .fz (eN k9), .fz (eS label12), .any, .any, .any, .any, .any, .any, .any, .any, .any, .any]) (x := (T__law_label ds s7.1 ).1) fun label12 hlabel12 => ?_
      have hll : label12 ∈ LABX := by rw [hlabel12]; exact label_inX _ _
      have hlz := (keyX _ hll).1
      refine sg_gen (fun i13 : Nat => [.fz ((eL eI) script), .ow (Wd ds ((i13 : Nat) : Int)), .fz (eN turn3), .ow ((eL eS) s7.2), .fz (eN k9), .fz (eS label12), .any, .any, .any, .any, .any, .any, .any, .any, .any, .any]) (x := (T__law_label ds s7.1 ).2) fun i13 hi13 => ?_
      refine sg_last ?_
      refine sg_if (tj_cmp (p := (!decide (label12 ∈ s7.2))) (da := (eS label12)) (db := ((eL eS) s7.2)) (ev_fz (i := 5) rfl) (ev_ow (i := 3) rfl) (gNotIn_gl (gd_str (n := 0)))) (fun hc14 => ?_) (fun hc14 => ?_)
      · show Sg [.fz ((eL eI) script), .ow (Wd ds ((i13 : Nat) : Int)), .fz (eN turn3), .ow ((eL eS) s7.2), .fz (eN k9), .fz (eS label12), .any, .any, .any, .any, .any, .any, .any, .any, .any, .any] _ _ _
        refine sg_drop (ev_app (enc := eS) (xs := s7.2) (x := label12) rfl (ev_fz (i := 5) rfl) rfl (by first | exact scQ | exact hl2_ _ (by assumption) | (rw [List.length_map]; omega) | (rw [sortG_len, List.length_map]; omega) | exact LABX_K (hlx _ (by assumption)) | exact hlx _ (by assumption) | (simp only [List.length_cons, List.length_nil]; omega) | exact hlb_ | exact hlx | exact List.length_pos_iff.mpr (fun e_ => by simp_all) | (rw [ht35]; omega) | (rw [ht35]; have h2_ := alen; omega) | (have h2_ := alen; omega) | (rw [List.length_map]; simp only [List.length_cons, List.length_nil]; omega) | (intro e_; simp at e_; done) | (intro e_; cases e_; done) | (have h3_ := oneL; omega) | (have h3_ := slen_takeN label50 k52.toNat; omega) | (have h3_ := slen_takeN label50 k52.toNat; have h4_ := slen_dropN label50 k52.toNat; rw [sAdd_len]; omega) | exact hth_.1 | (have h5_ := hmx_.1; have h6_ := hmx_.2; omega) /-5-/)) ?_
        refine sg_gen (fun labels15 : (List OkS) => [.fz ((eL eI) script), .ow (Wd ds ((i13 : Nat) : Int)), .fz (eN turn3), .ow ((eL eS) labels15), .fz (eN k9), .fz (eS label12), .any, .any, .any, .any, .any, .any, .any, .any, .any, .any]) (x := (s7.2 ++ [label12])) fun labels15 hlabels15 => ?_
        have hlx : ∀ l ∈ labels15, l ∈ LABX := by first | (rw [hlabels15]; intro l z; cases z; done) | (rw [hlabels15]; exact srt_in hl2_) | (rw [hlabels15]; exact fun l z => (List.mem_append.mp z).elim (hI2_ l) (fun y => by rw [List.mem_singleton.mp y]; exact hll))
        have hln : labels15.length ≤ 7 := by first | (rw [hlabels15]; exact Nat.zero_le _) | (rw [hlabels15, List.length_map, sortG_len, List.length_map]; omega) | (rw [hlabels15, List.length_append]; simp only [List.length_cons, List.length_nil]; omega)
        exact sg_passN leT
      · show Sg [.fz ((eL eI) script), .ow (Wd ds ((i13 : Nat) : Int)), .fz (eN turn3), .ow ((eL eS) s7.2), .fz (eN k9), .fz (eS label12), .any, .any, .any, .any, .any, .any, .any, .any, .any, .any] _ _ _
        refine sg_skip ?_
        exact sg_passN leT
    show Sg [.fz ((eL eI) script), .ow (Wd ds ((s7.1 : Nat) : Int)), .fz (eN turn3), .ow ((eL eS) s7.2), .any, .any, .any, .any, .any, .any, .any, .any, .any, .any, .any, .any] _ _ _
    have hl1_ := (hI11).1
    have hl2_ := (hI11).2
    rw [List.length_range] at hl1_
    refine sg_set (d := ((eL eS) ((sortG (e2 (e2 eI eS) eS) (s7.2.map (fun (label16 : OkS) => ((T__law_key label16), label16)))).map (fun (pair19 : ((Int × OkS) × OkS)) => pair19.2)))) (ev_lcY (enc := (e2 (e2 eI eS) eS)) (encB := eS) (xs := (sortG (e2 (e2 eI eS) eS) (s7.2.map (fun (label16 : OkS) => ((T__law_key label16), label16))))) (fe := (fun (pair19 : ((Int × OkS) × OkS)) => pair19.2)) (ew_new (d := ((eL (e2 (e2 eI eS) eS)) (sortG (e2 (e2 eI eS) eS) (s7.2.map (fun (label16 : OkS) => ((T__law_key label16), label16)))))) (ev_sGLX (enc := (e2 (e2 eI eS) eS)) (xs := (s7.2.map (fun (label16 : OkS) => ((T__law_key label16), label16)))) (so_2 (so_2 (so_int (n := 0)) (so_str (n := 0))) (So.le (so_str (n := 0)) (by decide : 0 ≤ 1))) (.inl fun _ => True.intro) (ev_lcY (enc := eS) (encB := (e2 (e2 eI eS) eS)) (xs := s7.2) (fe := (fun (label16 : OkS) => ((T__law_key label16), label16))) (ew_ow (d := ((eL eS) s7.2)) (ev_ow (i := 3) rfl) rfl rfl) (by first | exact scQ | exact hl2_ _ (by assumption) | (rw [List.length_map]; omega) | (rw [sortG_len, List.length_map]; omega) | exact LABX_K (hlx _ (by assumption)) | exact hlx _ (by assumption) | (simp only [List.length_cons, List.length_nil]; omega) | exact hlb_ | exact hlx | exact List.length_pos_iff.mpr (fun e_ => by simp_all) | (rw [ht35]; omega) | (rw [ht35]; have h2_ := alen; omega) | (have h2_ := alen; omega) | (rw [List.length_map]; simp only [List.length_cons, List.length_nil]; omega) | (intro e_; simp at e_; done) | (intro e_; cases e_; done) | (have h3_ := oneL; omega) | (have h3_ := slen_takeN label50 k52.toNat; omega) | (have h3_ := slen_takeN label50 k52.toNat; have h4_ := slen_dropN label50 k52.toNat; rw [sAdd_len]; omega) | exact hth_.1 | (have h5_ := hmx_.1; have h6_ := hmx_.2; omega) /-7-/) (fun label16 hx17 => ⟨_, tg_n, _, _, (ev_tup (ea_cons (da := ((e2 eI eS) (T__law_key label16))) (ev_call (tv__law_key label16 (by first | exact scQ | exact hl2_ _ (by assumption) | (rw [List.length_map]; omega) | (rw [sortG_len, List.length_map]; omega) | exact LABX_K (hlx _ (by assumption)) | exact hlx _ (by assumption) | (simp only [List.length_cons, List.length_nil]; omega) | exact hlb_ | exact hlx | exact List.length_pos_iff.mpr (fun e_ => by simp_all) | (rw [ht35]; omega) | (rw [ht35]; have h2_ := alen; omega) | (have h2_ := alen; omega) | (rw [List.length_map]; simp only [List.length_cons, List.length_nil]; omega) | (intro e_; simp at e_; done) | (intro e_; cases e_; done) | (have h3_ := oneL; omega) | (have h3_ := slen_takeN label50 k52.toNat; omega) | (have h3_ := slen_takeN label50 k52.toNat; have h4_ := slen_dropN label50 k52.toNat; rw [sAdd_len]; omega) | exact hth_.1 | (have h5_ := hmx_.1; have h6_ := hmx_.2; omega) /-6-/)) (ea_cons (da := (eS label16)) (ev_fz (i := 5) rfl) ea_nil) rdT) (ea_cons (da := (eS label16)) (ev_fz (i := 5) rfl) ea_nil))), leT⟩)) (by first | exact scQ | exact hl2_ _ (by assumption) | (rw [List.length_map]; omega) | (rw [sortG_len, List.length_map]; omega) | exact LABX_K (hlx _ (by assumption)) | exact hlx _ (by assumption) | (simp only [List.length_cons, List.length_nil]; omega) | exact hlb_ | exact hlx | exact List.length_pos_iff.mpr (fun e_ => by simp_all) | (rw [ht35]; omega) | (rw [ht35]; have h2_ := alen; omega) | (have h2_ := alen; omega) | (rw [List.length_map]; simp only [List.length_cons, List.length_nil]; omega) | (intro e_; simp at e_; done) | (intro e_; cases e_; done) | (have h3_ := oneL; omega) | (have h3_ := slen_takeN label50 k52.toNat; omega) | (have h3_ := slen_takeN label50 k52.toNat; have h4_ := slen_dropN label50 k52.toNat; rw [sAdd_len]; omega) | exact hth_.1 | (have h5_ := hmx_.1; have h6_ := hmx_.2; omega) /-8-/)) rfl) (by first | exact scQ | exact hl2_ _ (by assumption) | (rw [List.length_map]; omega) | (rw [sortG_len, List.length_map]; omega) | exact LABX_K (hlx _ (by assumption)) | exact hlx _ (by assumption) | (simp only [List.length_cons, List.length_nil]; omega) | exact hlb_ | exact hlx | exact List.length_pos_iff.mpr (fun e_ => by simp_all) | (rw [ht35]; omega) | (rw [ht35]; have h2_ := alen; omega) | (have h2_ := alen; omega) | (rw [List.length_map]; simp only [List.length_cons, List.length_nil]; omega) | (intro e_; simp at e_; done) | (intro e_; cases e_; done) | (have h3_ := oneL; omega) | (have h3_ := slen_takeN label50 k52.toNat; omega) | (have h3_ := slen_takeN label50 k52.toNat; have h4_ := slen_dropN label50 k52.toNat; rw [sAdd_len]; omega) | exact hth_.1 | (have h5_ := hmx_.1; have h6_ := hmx_.2; omega) /-9-/) (fun pair19 hx20 => ⟨_, tg_n, _, _, (ev_ixC (d := ((e2 (e2 eI eS) eS) pair19)) (d' := (eS pair19.2)) (ev_fz (i := 6) rfl) rfl), leT⟩)) ?_
    refine sg_gen0 (fun labels22 : (List OkS) => [.fz ((eL eI) script), .ow (Wd ds ((s7.1 : Nat) : Int)), .fz (eN turn3), .ow ((eL eS) labels22), .any, .any, .any, .any, .any, .any, .any, .any, .any, .any, .any, .any]) (x := ((sortG (e2 (e2 eI eS) eS) (s7.2.map (fun (label16 : OkS) => ((T__law_key label16), label16)))).map (fun (pair19 : ((Int × OkS) × OkS)) => pair19.2))) fun labels22 hlabels22 => ?_
    have hlx : ∀ l ∈ labels22, l ∈ LABX := by first | (rw [hlabels22]; intro l z; cases z; done) | (rw [hlabels22]; exact srt_in hl2_) | (rw [hlabels22]; exact fun l z => (List.mem_append.mp z).elim (hI2_ l) (fun y => by rw [List.mem_singleton.mp y]; exact hll))
    have hln : labels22.length ≤ 7 := by first | (rw [hlabels22]; exact Nat.zero_le _) | (rw [hlabels22, List.length_map, sortG_len, List.length_map]; omega) | (rw [hlabels22, List.length_append]; simp only [List.length_cons, List.length_nil]; omega)
    refine sg_set (d := ((eL (e2 eI eS)) (labels22.map (fun (label23 : OkS) => (T_label_key label23))))) (ev_lcY (enc := eS) (encB := (e2 eI eS)) (xs := labels22) (fe := (fun (label23 : OkS) => (T_label_key label23))) (ew_ow (d := ((eL eS) labels22)) (ev_ow (i := 3) rfl) rfl rfl) (by first | exact scQ | exact hl2_ _ (by assumption) | (rw [List.length_map]; omega) | (rw [sortG_len, List.length_map]; omega) | exact LABX_K (hlx _ (by assumption)) | exact hlx _ (by assumption) | (simp only [List.length_cons, List.length_nil]; omega) | exact hlb_ | exact hlx | exact List.length_pos_iff.mpr (fun e_ => by simp_all) | (rw [ht35]; omega) | (rw [ht35]; have h2_ := alen; omega) | (have h2_ := alen; omega) | (rw [List.length_map]; simp only [List.length_cons, List.length_nil]; omega) | (intro e_; simp at e_; done) | (intro e_; cases e_; done) | (have h3_ := oneL; omega) | (have h3_ := slen_takeN label50 k52.toNat; omega) | (have h3_ := slen_takeN label50 k52.toNat; have h4_ := slen_dropN label50 k52.toNat; rw [sAdd_len]; omega) | exact hth_.1 | (have h5_ := hmx_.1; have h6_ := hmx_.2; omega) /-11-/) (fun label23 hx24 => ⟨_, tg_n, _, _, (ev_call (tv_label_key label23 (by first | exact scQ | exact hl2_ _ (by assumption) | (rw [List.length_map]; omega) | (rw [sortG_len, List.length_map]; omega) | exact LABX_K (hlx _ (by assumption)) | exact hlx _ (by assumption) | (simp only [List.length_cons, List.length_nil]; omega) | exact hlb_ | exact hlx | exact List.length_pos_iff.mpr (fun e_ => by simp_all) | (rw [ht35]; omega) | (rw [ht35]; have h2_ := alen; omega) | (have h2_ := alen; omega) | (rw [List.length_map]; simp only [List.length_cons, List.length_nil]; omega) | (intro e_; simp at e_; done) | (intro e_; cases e_; done) | (have h3_ := oneL; omega) | (have h3_ := slen_takeN label50 k52.toNat; omega) | (have h3_ := slen_takeN label50 k52.toNat; have h4_ := slen_dropN label50 k52.toNat; rw [sAdd_len]; omega) | exact hth_.1 | (have h5_ := hmx_.1; have h6_ := hmx_.2; omega) /-10-/)) (ea_cons (da := (eS label23)) (ev_fz (i := 5) rfl) ea_nil) rdT), leT⟩)) ?_
    refine sg_gen0 (fun keys26 : (List (Int × OkS)) => [.fz ((eL eI) script), .ow (Wd ds ((s7.1 : Nat) : Int)), .fz (eN turn3), .ow ((eL eS) labels22), .any, .any, .any, .ow ((eL (e2 eI eS)) keys26), .any, .any, .any, .any, .any, .any, .any, .any]) (x := (labels22.map (fun (label23 : OkS) => (T_label_key label23)))) fun keys26 hkeys26 => ?_
    refine sg_ifF (p := (!decide (keys26 = (labels22.map (fun (label27 : OkS) => (T__law_key label27)))))) (tj_cmp (p := (!decide (keys26 = (labels22.map (fun (label27 : OkS) => (T__law_key label27)))))) (da := ((eL (e2 eI eS)) keys26)) (db := ((eL (e2 eI eS)) (labels22.map (fun (label27 : OkS) => (T__law_key label27))))) (ev_ow (i := 7) rfl) (ev_lcY (enc := eS) (encB := (e2 eI eS)) (xs := labels22) (fe := (fun (label27 : OkS) => (T__law_key label27))) (ew_ow (d := ((eL eS) labels22)) (ev_ow (i := 3) rfl) rfl rfl) (by first | exact scQ | exact hl2_ _ (by assumption) | (rw [List.length_map]; omega) | (rw [sortG_len, List.length_map]; omega) | exact LABX_K (hlx _ (by assumption)) | exact hlx _ (by assumption) | (simp only [List.length_cons, List.length_nil]; omega) | exact hlb_ | exact hlx | exact List.length_pos_iff.mpr (fun e_ => by simp_all) | (rw [ht35]; omega) | (rw [ht35]; have h2_ := alen; omega) | (have h2_ := alen; omega) | (rw [List.length_map]; simp only [List.length_cons, List.length_nil]; omega) | (intro e_; simp at e_; done) | (intro e_; cases e_; done) | (have h3_ := oneL; omega) | (have h3_ := slen_takeN label50 k52.toNat; omega) | (have h3_ := slen_takeN label50 k52.toNat; have h4_ := slen_dropN label50 k52.toNat; rw [sAdd_len]; omega) | exact hth_.1 | (have h5_ := hmx_.1; have h6_ := hmx_.2; omega) /-13-/) (fun label27 hx28 => ⟨_, tg_n, _, _, (ev_call (tv__law_key label27 (by first | exact scQ | exact hl2_ _ (by assumption) | (rw [List.length_map]; omega) | (rw [sortG_len, List.length_map]; omega) | exact LABX_K (hlx _ (by assumption)) | exact hlx _ (by assumption) | (simp only [List.length_cons, List.length_nil]; omega) | exact hlb_ | exact hlx | exact List.length_pos_iff.mpr (fun e_ => by simp_all) | (rw [ht35]; omega) | (rw [ht35]; have h2_ := alen; omega) | (have h2_ := alen; omega) | (rw [List.length_map]; simp only [List.length_cons, List.length_nil]; omega) | (intro e_; simp at e_; done) | (intro e_; cases e_; done) | (have h3_ := oneL; omega) | (have h3_ := slen_takeN label50 k52.toNat; omega) | (have h3_ := slen_takeN label50 k52.toNat; have h4_ := slen_dropN label50 k52.toNat; rw [sAdd_len]; omega) | exact hth_.1 | (have h5_ := hmx_.1; have h6_ := hmx_.2; omega) /-12-/)) (ea_cons (da := (eS label27)) (ev_fz (i := 5) rfl) ea_nil) rdT), leT⟩)) (gNe_g (gd_list (gd_2 (gd_int (n := 0)) (gd_str (n := 0)))))) (by rw [hkeys26, keys_eq hlx]; simp /-14-/) (sg_skip ?_)
    show Sg [.fz ((eL eI) script), .ow (Wd ds ((s7.1 : Nat) : Int)), .fz (eN turn3), .ow ((eL eS) labels22), .any, .any, .any, .ow ((eL (e2 eI eS)) keys26), .any, .any, .any, .any, .any, .any, .any, .any] _ _ _
    refine sg_forX (enc := eS) (xs := (labels22 ++ ([(T__law_label ds s7.1 ).1] : (List OkS)))) (fun (s30 : (Nat)) => [.fz ((eL eI) script), .ow (Wd ds ((s30 : Nat) : Int)), .fz (eN turn3), .ow ((eL eS) labels22), .any, .any, .any, .ow ((eL (e2 eI eS)) keys26), .any, .any, .any, .any, .any, .any, .any, .any]) ((T__law_label ds s7.1 ).2) (fun (k : Nat) (s30 : (Nat)) => True) (ew_new (d := ((eL eS) (labels22 ++ ([(T__law_label ds s7.1 ).1] : (List OkS))))) (ev_addL (enc := eS) (xs := labels22) (ys := ([(T__law_label ds s7.1 ).1] : (List OkS))) (ev_ow (i := 3) rfl) (ev_lst (ea_cons (da := (eS ((T__law_label ds s7.1 ).1))) (ev_call (tv__law_label ds s7.1  ) (ea_consO (i := 1) rfl ea_nil) rdT) ea_nil)) (by first | exact scQ | exact hl2_ _ (by assumption) | (rw [List.length_map]; omega) | (rw [sortG_len, List.length_map]; omega) | exact LABX_K (hlx _ (by assumption)) | exact hlx _ (by assumption) | (simp only [List.length_cons, List.length_nil]; omega) | exact hlb_ | exact hlx | exact List.length_pos_iff.mpr (fun e_ => by simp_all) | (rw [ht35]; omega) | (rw [ht35]; have h2_ := alen; omega) | (have h2_ := alen; omega) | (rw [List.length_map]; simp only [List.length_cons, List.length_nil]; omega) | (intro e_; simp at e_; done) | (intro e_; cases e_; done) | (have h3_ := oneL; omega) | (have h3_ := slen_takeN label50 k52.toNat; omega) | (have h3_ := slen_takeN label50 k52.toNat; have h4_ := slen_dropN label50 k52.toNat; rw [sAdd_len]; omega) | exact hth_.1 | (have h5_ := hmx_.1; have h6_ := hmx_.2; omega) /-15-/)) rfl) leT (by trivial) (fun k31 label32 s30 hk33 hI34 => ⟨_, tg_n, ?_⟩) (fun s30 hI34 => ?_)
    · show Sg [.fz ((eL eI) script), .ow (Wd ds ((s30 : Nat) : Int)), .fz (eN turn3), .ow ((eL eS) labels22), .any, .fz (eS label32), .any, .ow ((eL (e2 eI eS)) keys26), .any, .any, .any, .any, .any, .any, .any, .any] _ _ _
      have hlthk33 := lt_of_get hk33
      have hmhk33 := List.mem_of_getElem? hk33
      have hlb_ : label32 ∈ LABX := (List.mem_append.mp hmhk33).elim (hlx _) (fun z => by rw [List.mem_singleton.mp z]; exact label_inX _ _)
      have hky_ := keyY _ hlb_
      have hkx_ := (keyX _ hlb_).1
      refine sg_asg (d := ((e2 eI eS) (T__law_key label32))) (ev_call (tv__law_key label32 (by first | exact scQ | exact hl2_ _ (by assumption) | (rw [List.length_map]; omega) | (rw [sortG_len, List.length_map]; omega) | exact LABX_K (hlx _ (by assumption)) | exact hlx _ (by assumption) | (simp only [List.length_cons, List.length_nil]; omega) | exact hlb_ | exact hlx | exact List.length_pos_iff.mpr (fun e_ => by simp_all) | (rw [ht35]; omega) | (rw [ht35]; have h2_ := alen; omega) | (have h2_ := alen; omega) | (rw [List.length_map]; simp only [List.length_cons, List.length_nil]; omega) | (intro e_; simp at e_; done) | (intro e_; cases e_; done) | (have h3_ := oneL; omega) | (have h3_ := slen_takeN label50 k52.toNat; omega) | (have h3_ := slen_takeN label50 k52.toNat; have h4_ := slen_dropN label50 k52.toNat; rw [sAdd_len]; omega) | exact hth_.1 | (have h5_ := hmx_.1; have h6_ := hmx_.2; omega) /-16-/)) (ea_cons (da := (eS label32)) (ev_fz (i := 5) rfl) ea_nil) rdT) (tg_t (tg_cons tg_n (tg_cons tg_n tg_nil))) ?_
      refine sg_gen0 (fun t35 : (Int × OkS) => [.fz ((eL eI) script), .ow (Wd ds ((s30 : Nat) : Int)), .fz (eN turn3), .ow ((eL eS) labels22), .any, .fz (eS label32), .any, .ow ((eL (e2 eI eS)) keys26), .fz (eI t35.1), .fz (eS t35.2), .any, .any, .any, .any, .any, .any]) (x := (T__law_key label32)) fun t35 ht35 => ?_
      refine sg_set (d := ((eL (e2 eI eS)) ((labels22.filter (fun (other36 : OkS) => (ltG (e2 eI eS) (t35.1, t35.2) (T__law_key other36)))).map (fun (other36 : OkS) => (T__law_key other36))))) (ev_lc (enc := eS) (encB := (e2 eI eS)) (xs := labels22) (p := (fun (other36 : OkS) => (ltG (e2 eI eS) (t35.1, t35.2) (T__law_key other36)))) (fe := (fun (other36 : OkS) => (T__law_key other36))) (ew_ow (d := ((eL eS) labels22)) (ev_ow (i := 3) rfl) rfl rfl) (by first | exact scQ | exact hl2_ _ (by assumption) | (rw [List.length_map]; omega) | (rw [sortG_len, List.length_map]; omega) | exact LABX_K (hlx _ (by assumption)) | exact hlx _ (by assumption) | (simp only [List.length_cons, List.length_nil]; omega) | exact hlb_ | exact hlx | exact List.length_pos_iff.mpr (fun e_ => by simp_all) | (rw [ht35]; omega) | (rw [ht35]; have h2_ := alen; omega) | (have h2_ := alen; omega) | (rw [List.length_map]; simp only [List.length_cons, List.length_nil]; omega) | (intro e_; simp at e_; done) | (intro e_; cases e_; done) | (have h3_ := oneL; omega) | (have h3_ := slen_takeN label50 k52.toNat; omega) | (have h3_ := slen_takeN label50 k52.toNat; have h4_ := slen_dropN label50 k52.toNat; rw [sAdd_len]; omega) | exact hth_.1 | (have h5_ := hmx_.1; have h6_ := hmx_.2; omega) /-19-/) (fun other36 hx37 => ⟨_, tg_n, (tj_cmp (p := (ltG (e2 eI eS) (t35.1, t35.2) (T__law_key other36))) (da := ((e2 eI eS) (T__law_key other36))) (db := ((e2 eI eS) (t35.1, t35.2))) (ev_call (tv__law_key other36 (by first | exact scQ | exact hl2_ _ (by assumption) | (rw [List.length_map]; omega) | (rw [sortG_len, List.length_map]; omega) | exact LABX_K (hlx _ (by assumption)) | exact hlx _ (by assumption) | (simp only [List.length_cons, List.length_nil]; omega) | exact hlb_ | exact hlx | exact List.length_pos_iff.mpr (fun e_ => by simp_all) | (rw [ht35]; omega) | (rw [ht35]; have h2_ := alen; omega) | (have h2_ := alen; omega) | (rw [List.length_map]; simp only [List.length_cons, List.length_nil]; omega) | (intro e_; simp at e_; done) | (intro e_; cases e_; done) | (have h3_ := oneL; omega) | (have h3_ := slen_takeN label50 k52.toNat; omega) | (have h3_ := slen_takeN label50 k52.toNat; have h4_ := slen_dropN label50 k52.toNat; rw [sAdd_len]; omega) | exact hth_.1 | (have h5_ := hmx_.1; have h6_ := hmx_.2; omega) /-17-/)) (ea_cons (da := (eS other36)) (ev_fz (i := 11) rfl) ea_nil) rdT) (ev_tup (ea_cons (da := (eI t35.1)) (ev_fz (i := 8) rfl) (ea_cons (da := (eS t35.2)) (ev_fz (i := 9) rfl) ea_nil))) (gGt_G (enc := (e2 eI eS)) (so_2 (so_int (n := 0)) (so_str (n := 0))) (fun _ _ h => nomatch h))), (fun _ => leT), fun hp38 => ⟨_, _, (ev_call (tv__law_key other36 (by first | exact scQ | exact hl2_ _ (by assumption) | (rw [List.length_map]; omega) | (rw [sortG_len, List.length_map]; omega) | exact LABX_K (hlx _ (by assumption)) | exact hlx _ (by assumption) | (simp only [List.length_cons, List.length_nil]; omega) | exact hlb_ | exact hlx | exact List.length_pos_iff.mpr (fun e_ => by simp_all) | (rw [ht35]; omega) | (rw [ht35]; have h2_ := alen; omega) | (have h2_ := alen; omega) | (rw [List.length_map]; simp only [List.length_cons, List.length_nil]; omega) | (intro e_; simp at e_; done) | (intro e_; cases e_; done) | (have h3_ := oneL; omega) | (have h3_ := slen_takeN label50 k52.toNat; omega) | (have h3_ := slen_takeN label50 k52.toNat; have h4_ := slen_dropN label50 k52.toNat; rw [sAdd_len]; omega) | exact hth_.1 | (have h5_ := hmx_.1; have h6_ := hmx_.2; omega) /-18-/)) (ea_cons (da := (eS other36)) (ev_fz (i := 11) rfl) ea_nil) rdT), leT⟩⟩)) ?_
      refine sg_gen0 (fun later39 : (List (Int × OkS)) => [.fz ((eL eI) script), .ow (Wd ds ((s30 : Nat) : Int)), .fz (eN turn3), .ow ((eL eS) labels22), .any, .fz (eS label32), .any, .ow ((eL (e2 eI eS)) keys26), .fz (eI t35.1), .fz (eS t35.2), .ow ((eL (e2 eI eS)) later39), .any, .any, .any, .any, .any]) (x := ((labels22.filter (fun (other36 : OkS) => (ltG (e2 eI eS) (t35.1, t35.2) (T__law_key other36)))).map (fun (other36 : OkS) => (T__law_key other36)))) fun later39 hlater39 => ?_
      refine sg_set (d := ((eO eS) none)) ev_C ?_
      show Sg [.fz ((eL eI) script), .ow (Wd ds ((s30 : Nat) : Int)), .fz (eN turn3), .ow ((eL eS) labels22), .any, .fz (eS label32), .any, .ow ((eL (e2 eI eS)) keys26), .fz (eI t35.1), .fz (eS t35.2), .ow ((eL (e2 eI eS)) later39), .any, .fz ((eO eS) none), .any, .any, .any] _ _ _
      refine sg_join0 (σ := (Option OkS)) (fun (s45 : (Option OkS)) => [.fz ((eL eI) script), .ow (Wd ds ((s30 : Nat) : Int)), .fz (eN turn3), .ow ((eL eS) labels22), .any, .fz (eS label32), .any, .ow ((eL (e2 eI eS)) keys26), .fz (eI t35.1), .fz (eS t35.2), .ow ((eL (e2 eI eS)) later39), .any, .fz ((eO eS) s45), .any, .any, .any]) (w := Let ((some (sStr (t35.1 + (1 : Int)))) : (Option OkS)) fun due42 => due42) (z := if (ltG (e2 eI eS) (t35.1, (sAdd t35.2 (okS "a"))) (later39.getD 0 (0, dS0))) = true then Let ((some (sAdd label32 (okS "a"))) : (Option OkS)) fun due44 => due44 else none) (tj_or (p := (decide (later39 = ([] : (List (Int × OkS)))))) (q := (ltG (e2 eI eS) ((t35.1 + (1 : Int)), (okS "")) (later39.getD 0 (0, dS0)))) (tj_cmp (p := (decide (later39 = ([] : (List (Int × OkS)))))) (da := ((eL (e2 eI eS)) later39)) (db := ((eL (e2 eI eS)) ([] : (List (Int × OkS))))) (ev_ow (i := 10) rfl) (ev_lst ea_nil) (gEq_g (gd_list (gd_2 (gd_int (n := 0)) (gd_str (n := 0)))))) (fun hb40 => (tj_cmp (p := (ltG (e2 eI eS) ((t35.1 + (1 : Int)), (okS "")) (later39.getD 0 (0, dS0)))) (da := ((e2 eI eS) ((t35.1 + (1 : Int)), (okS "")))) (db := ((e2 eI eS) (later39.getD 0 (0, dS0)))) (ev_tup (ea_cons (da := (eI (t35.1 + (1 : Int)))) (ev_addI (x := t35.1) (y := (1 : Int)) (ev_fz (i := 8) rfl) ev_C) (ea_cons (da := (eS (okS ""))) ev_C ea_nil))) (ev_ixLN (0, dS0) (enc := (e2 eI eS)) (xs := later39) (p := 0) (ev_ow (i := 10) rfl) ev_C (by first | exact scQ | exact hl2_ _ (by assumption) | (rw [List.length_map]; omega) | (rw [sortG_len, List.length_map]; omega) | exact LABX_K (hlx _ (by assumption)) | exact hlx _ (by assumption) | (simp only [List.length_cons, List.length_nil]; omega) | exact hlb_ | exact hlx | exact List.length_pos_iff.mpr (fun e_ => by simp_all) | (rw [ht35]; omega) | (rw [ht35]; have h2_ := alen; omega) | (have h2_ := alen; omega) | (rw [List.length_map]; simp only [List.length_cons, List.length_nil]; omega) | (intro e_; simp at e_; done) | (intro e_; cases e_; done) | (have h3_ := oneL; omega) | (have h3_ := slen_takeN label50 k52.toNat; omega) | (have h3_ := slen_takeN label50 k52.toNat; have h4_ := slen_dropN label50 k52.toNat; rw [sAdd_len]; omega) | exact hth_.1 | (have h5_ := hmx_.1; have h6_ := hmx_.2; omega) /-20-/)) (gLt_G (enc := (e2 eI eS)) (so_2 (so_int (n := 0)) (so_str (n := 0))) (fun _ _ h => nomatch h))))) (fun hc41 => ?_) (fun hc41 => ?_) (fun s45 hs45 => ?_)
      · show Sg [.fz ((eL eI) script), .ow (Wd ds ((s30 : Nat) : Int)), .fz (eN turn3), .ow ((eL eS) labels22), .any, .fz (eS label32), .any, .ow ((eL (e2 eI eS)) keys26), .fz (eI t35.1), .fz (eS t35.2), .ow ((eL (e2 eI eS)) later39), .any, .fz ((eO eS) none), .any, .any, .any] _ _ _
        refine sg_last ?_
        refine sg_set (d := ((eO eS) (some (sStr (t35.1 + (1 : Int)))))) (ev_strI (x := (t35.1 + (1 : Int))) (ev_addI (x := t35.1) (y := (1 : Int)) (ev_fz (i := 8) rfl) ev_C) (by first | exact scQ | exact hl2_ _ (by assumption) | (rw [List.length_map]; omega) | (rw [sortG_len, List.length_map]; omega) | exact LABX_K (hlx _ (by assumption)) | exact hlx _ (by assumption) | (simp only [List.length_cons, List.length_nil]; omega) | exact hlb_ | exact hlx | exact List.length_pos_iff.mpr (fun e_ => by simp_all) | (rw [ht35]; omega) | (rw [ht35]; have h2_ := alen; omega) | (have h2_ := alen; omega) | (rw [List.length_map]; simp only [List.length_cons, List.length_nil]; omega) | (intro e_; simp at e_; done) | (intro e_; cases e_; done) | (have h3_ := oneL; omega) | (have h3_ := slen_takeN label50 k52.toNat; omega) | (have h3_ := slen_takeN label50 k52.toNat; have h4_ := slen_dropN label50 k52.toNat; rw [sAdd_len]; omega) | exact hth_.1 | (have h5_ := hmx_.1; have h6_ := hmx_.2; omega) /-21-/)) ?_
        refine sg_gen (fun due42 : (Option OkS) => [.fz ((eL eI) script), .ow (Wd ds ((s30 : Nat) : Int)), .fz (eN turn3), .ow ((eL eS) labels22), .any, .fz (eS label32), .any, .ow ((eL (e2 eI eS)) keys26), .fz (eI t35.1), .fz (eS t35.2), .ow ((eL (e2 eI eS)) later39), .any, .fz ((eO eS) due42), .any, .any, .any]) (x := (some (sStr (t35.1 + (1 : Int))))) fun due42 hdue42 => ?_
        exact sg_pass leT
      · show Sg [.fz ((eL eI) script), .ow (Wd ds ((s30 : Nat) : Int)), .fz (eN turn3), .ow ((eL eS) labels22), .any, .fz (eS label32), .any, .ow ((eL (e2 eI eS)) keys26), .fz (eI t35.1), .fz (eS t35.2), .ow ((eL (e2 eI eS)) later39), .any, .fz ((eO eS) none), .any, .any, .any] _ _ _
        refine sg_last ?_
        refine sg_if (tj_cmp (p := (ltG (e2 eI eS) (t35.1, (sAdd t35.2 (okS "a"))) (later39.getD 0 (0, dS0)))) (da := ((e2 eI eS) (t35.1, (sAdd t35.2 (okS "a"))))) (db := ((e2 eI eS) (later39.getD 0 (0, dS0)))) (ev_tup (ea_cons (da := (eI t35.1)) (ev_fz (i := 8) rfl) (ea_cons (da := (eS (sAdd t35.2 (okS "a")))) (ev_addS (s := t35.2) (t := (okS "a")) (ev_fz (i := 9) rfl) ev_C (by first | exact scQ | exact hl2_ _ (by assumption) | (rw [List.length_map]; omega) | (rw [sortG_len, List.length_map]; omega) | exact LABX_K (hlx _ (by assumption)) | exact hlx _ (by assumption) | (simp only [List.length_cons, List.length_nil]; omega) | exact hlb_ | exact hlx | exact List.length_pos_iff.mpr (fun e_ => by simp_all) | (rw [ht35]; omega) | (rw [ht35]; have h2_ := alen; omega) | (have h2_ := alen; omega) | (rw [List.length_map]; simp only [List.length_cons, List.length_nil]; omega) | (intro e_; simp at e_; done) | (intro e_; cases e_; done) | (have h3_ := oneL; omega) | (have h3_ := slen_takeN label50 k52.toNat; omega) | (have h3_ := slen_takeN label50 k52.toNat; have h4_ := slen_dropN label50 k52.toNat; rw [sAdd_len]; omega) | exact hth_.1 | (have h5_ := hmx_.1; have h6_ := hmx_.2; omega) /-22-/)) ea_nil))) (ev_ixLN (0, dS0) (enc := (e2 eI eS)) (xs := later39) (p := 0) (ev_ow (i := 10) rfl) ev_C (by first | exact scQ | exact hl2_ _ (by assumption) | (rw [List.length_map]; omega) | (rw [sortG_len, List.length_map]; omega) | exact LABX_K (hlx _ (by assumption)) | exact hlx _ (by assumption) | (simp only [List.length_cons, List.length_nil]; omega) | exact hlb_ | exact hlx | exact List.length_pos_iff.mpr (fun e_ => by simp_all) | (rw [ht35]; omega) | (rw [ht35]; have h2_ := alen; omega) | (have h2_ := alen; omega) | (rw [List.length_map]; simp only [List.length_cons, List.length_nil]; omega) | (intro e_; simp at e_; done) | (intro e_; cases e_; done) | (have h3_ := oneL; omega) | (have h3_ := slen_takeN label50 k52.toNat; omega) | (have h3_ := slen_takeN label50 k52.toNat; have h4_ := slen_dropN label50 k52.toNat; rw [sAdd_len]; omega) | exact hth_.1 | (have h5_ := hmx_.1; have h6_ := hmx_.2; omega) /-23-/)) (gLt_G (enc := (e2 eI eS)) (so_2 (so_int (n := 0)) (so_str (n := 0))) (fun _ _ h => nomatch h))) (fun hc43 => ?_) (fun hc43 => ?_)
        · show Sg [.fz ((eL eI) script), .ow (Wd ds ((s30 : Nat) : Int)), .fz (eN turn3), .ow ((eL eS) labels22), .any, .fz (eS label32), .any, .ow ((eL (e2 eI eS)) keys26), .fz (eI t35.1), .fz (eS t35.2), .ow ((eL (e2 eI eS)) later39), .any, .fz ((eO eS) none), .any, .any, .any] _ _ _
          refine sg_set (d := ((eO eS) (some (sAdd label32 (okS "a"))))) (ev_addS (s := label32) (t := (okS "a")) (ev_fz (i := 5) rfl) ev_C (by first | exact scQ | exact hl2_ _ (by assumption) | (rw [List.length_map]; omega) | (rw [sortG_len, List.length_map]; omega) | exact LABX_K (hlx _ (by assumption)) | exact hlx _ (by assumption) | (simp only [List.length_cons, List.length_nil]; omega) | exact hlb_ | exact hlx | exact List.length_pos_iff.mpr (fun e_ => by simp_all) | (rw [ht35]; omega) | (rw [ht35]; have h2_ := alen; omega) | (have h2_ := alen; omega) | (rw [List.length_map]; simp only [List.length_cons, List.length_nil]; omega) | (intro e_; simp at e_; done) | (intro e_; cases e_; done) | (have h3_ := oneL; omega) | (have h3_ := slen_takeN label50 k52.toNat; omega) | (have h3_ := slen_takeN label50 k52.toNat; have h4_ := slen_dropN label50 k52.toNat; rw [sAdd_len]; omega) | exact hth_.1 | (have h5_ := hmx_.1; have h6_ := hmx_.2; omega) /-24-/)) ?_
          refine sg_gen (fun due44 : (Option OkS) => [.fz ((eL eI) script), .ow (Wd ds ((s30 : Nat) : Int)), .fz (eN turn3), .ow ((eL eS) labels22), .any, .fz (eS label32), .any, .ow ((eL (e2 eI eS)) keys26), .fz (eI t35.1), .fz (eS t35.2), .ow ((eL (e2 eI eS)) later39), .any, .fz ((eO eS) due44), .any, .any, .any]) (x := (some (sAdd label32 (okS "a")))) fun due44 hdue44 => ?_
          exact sg_pass leT
        · show Sg [.fz ((eL eI) script), .ow (Wd ds ((s30 : Nat) : Int)), .fz (eN turn3), .ow ((eL eS) labels22), .any, .fz (eS label32), .any, .ow ((eL (e2 eI eS)) keys26), .fz (eI t35.1), .fz (eS t35.2), .ow ((eL (e2 eI eS)) later39), .any, .fz ((eO eS) none), .any, .any, .any] _ _ _
          refine sg_skip ?_
          exact sg_pass leT
      show Sg [.fz ((eL eI) script), .ow (Wd ds ((s30 : Nat) : Int)), .fz (eN turn3), .ow ((eL eS) labels22), .any, .fz (eS label32), .any, .ow ((eL (e2 eI eS)) keys26), .fz (eI t35.1), .fz (eS t35.2), .ow ((eL (e2 eI eS)) later39), .any, .fz ((eO eS) s45), .any, .any, .any] _ _ _
      refine sg_last ?_
      refine sg_ifF (p := (!decide ((T_label_behind labels22 label32) = s45))) (tj_cmp (p := (!decide ((T_label_behind labels22 label32) = s45))) (da := ((eO eS) (T_label_behind labels22 label32))) (db := ((eO eS) s45)) (ev_call (tv_label_behind labels22 label32 (by first | exact scQ | exact hl2_ _ (by assumption) | (rw [List.length_map]; omega) | (rw [sortG_len, List.length_map]; omega) | exact LABX_K (hlx _ (by assumption)) | exact hlx _ (by assumption) | (simp only [List.length_cons, List.length_nil]; omega) | exact hlb_ | exact hlx | exact List.length_pos_iff.mpr (fun e_ => by simp_all) | (rw [ht35]; omega) | (rw [ht35]; have h2_ := alen; omega) | (have h2_ := alen; omega) | (rw [List.length_map]; simp only [List.length_cons, List.length_nil]; omega) | (intro e_; simp at e_; done) | (intro e_; cases e_; done) | (have h3_ := oneL; omega) | (have h3_ := slen_takeN label50 k52.toNat; omega) | (have h3_ := slen_takeN label50 k52.toNat; have h4_ := slen_dropN label50 k52.toNat; rw [sAdd_len]; omega) | exact hth_.1 | (have h5_ := hmx_.1; have h6_ := hmx_.2; omega) /-25-/) (by first | exact scQ | exact hl2_ _ (by assumption) | (rw [List.length_map]; omega) | (rw [sortG_len, List.length_map]; omega) | exact LABX_K (hlx _ (by assumption)) | exact hlx _ (by assumption) | (simp only [List.length_cons, List.length_nil]; omega) | exact hlb_ | exact hlx | exact List.length_pos_iff.mpr (fun e_ => by simp_all) | (rw [ht35]; omega) | (rw [ht35]; have h2_ := alen; omega) | (have h2_ := alen; omega) | (rw [List.length_map]; simp only [List.length_cons, List.length_nil]; omega) | (intro e_; simp at e_; done) | (intro e_; cases e_; done) | (have h3_ := oneL; omega) | (have h3_ := slen_takeN label50 k52.toNat; omega) | (have h3_ := slen_takeN label50 k52.toNat; have h4_ := slen_dropN label50 k52.toNat; rw [sAdd_len]; omega) | exact hth_.1 | (have h5_ := hmx_.1; have h6_ := hmx_.2; omega) /-26-/) (by first | exact scQ | exact hl2_ _ (by assumption) | (rw [List.length_map]; omega) | (rw [sortG_len, List.length_map]; omega) | exact LABX_K (hlx _ (by assumption)) | exact hlx _ (by assumption) | (simp only [List.length_cons, List.length_nil]; omega) | exact hlb_ | exact hlx | exact List.length_pos_iff.mpr (fun e_ => by simp_all) | (rw [ht35]; omega) | (rw [ht35]; have h2_ := alen; omega) | (have h2_ := alen; omega) | (rw [List.length_map]; simp only [List.length_cons, List.length_nil]; omega) | (intro e_; simp at e_; done) | (intro e_; cases e_; done) | (have h3_ := oneL; omega) | (have h3_ := slen_takeN label50 k52.toNat; omega) | (have h3_ := slen_takeN label50 k52.toNat; have h4_ := slen_dropN label50 k52.toNat; rw [sAdd_len]; omega) | exact hth_.1 | (have h5_ := hmx_.1; have h6_ := hmx_.2; omega) /-27-/)) (ea_cons (da := ((eT eS) labels22)) (ev_tupL (enc := eS) (xs := labels22) (ev_ow (i := 3) rfl)) (ea_cons (da := (eS label32)) (ev_fz (i := 5) rfl) ea_nil)) rdT) (ev_fz (i := 12) rfl) (gNe_g (gd_opt (gd_str (n := 0)) (fun _ => rfl)))) (by have h_ := behind_eq hlx hlb_ (later := later39) (by rw [hlater39, ht35]); rw [← ht35] at h_; have e_ : T_label_behind labels22 label32 = s45 := (by rw [h_, hs45]; rfl); rw [e_]; simp /-28-/) (sg_skip ?_)
      show Sg [.fz ((eL eI) script), .ow (Wd ds ((s30 : Nat) : Int)), .fz (eN turn3), .ow ((eL eS) labels22), .any, .fz (eS label32), .any, .ow ((eL (e2 eI eS)) keys26), .fz (eI t35.1), .fz (eS t35.2), .ow ((eL (e2 eI eS)) later39), .any, .fz ((eO eS) s45), .any, .any, .any] _ _ _
      exact sg_passX s30 (by trivial /-29-/) leT
    show Sg [.fz ((eL eI) script), .ow (Wd ds ((s30 : Nat) : Int)), .fz (eN turn3), .ow ((eL eS) labels22), .any, .any, .any, .ow ((eL (e2 eI eS)) keys26), .any, .any, .any, .any, .any, .any, .any, .any] _ _ _
    refine sg_set (d := (eI (maxL (([(0 : Int)] : (List Int)) ++ (labels22.map (fun (label46 : OkS) => (T__law_key label46).1)))))) (ev_maxL (ns := (([(0 : Int)] : (List Int)) ++ (labels22.map (fun (label46 : OkS) => (T__law_key label46).1)))) (ev_addL (enc := eI) (xs := ([(0 : Int)] : (List Int))) (ys := (labels22.map (fun (label46 : OkS) => (T__law_key label46).1))) (ev_lst (ea_cons (da := (eI (0 : Int))) ev_C ea_nil)) (ev_lcY (enc := eS) (encB := eI) (xs := labels22) (fe := (fun (label46 : OkS) => (T__law_key label46).1)) (ew_ow (d := ((eL eS) labels22)) (ev_ow (i := 3) rfl) rfl rfl) (by first | exact scQ | exact hl2_ _ (by assumption) | (rw [List.length_map]; omega) | (rw [sortG_len, List.length_map]; omega) | exact LABX_K (hlx _ (by assumption)) | exact hlx _ (by assumption) | (simp only [List.length_cons, List.length_nil]; omega) | exact hlb_ | exact hlx | exact List.length_pos_iff.mpr (fun e_ => by simp_all) | (rw [ht35]; omega) | (rw [ht35]; have h2_ := alen; omega) | (have h2_ := alen; omega) | (rw [List.length_map]; simp only [List.length_cons, List.length_nil]; omega) | (intro e_; simp at e_; done) | (intro e_; cases e_; done) | (have h3_ := oneL; omega) | (have h3_ := slen_takeN label50 k52.toNat; omega) | (have h3_ := slen_takeN label50 k52.toNat; have h4_ := slen_dropN label50 k52.toNat; rw [sAdd_len]; omega) | exact hth_.1 | (have h5_ := hmx_.1; have h6_ := hmx_.2; omega) /-31-/) (fun label46 hx47 => ⟨_, tg_n, _, _, (ev_ixC (d := ((e2 eI eS) (T__law_key label46))) (d' := (eI ((T__law_key label46).1))) (ev_call (tv__law_key label46 (by first | exact scQ | exact hl2_ _ (by assumption) | (rw [List.length_map]; omega) | (rw [sortG_len, List.length_map]; omega) | exact LABX_K (hlx _ (by assumption)) | exact hlx _ (by assumption) | (simp only [List.length_cons, List.length_nil]; omega) | exact hlb_ | exact hlx | exact List.length_pos_iff.mpr (fun e_ => by simp_all) | (rw [ht35]; omega) | (rw [ht35]; have h2_ := alen; omega) | (have h2_ := alen; omega) | (rw [List.length_map]; simp only [List.length_cons, List.length_nil]; omega) | (intro e_; simp at e_; done) | (intro e_; cases e_; done) | (have h3_ := oneL; omega) | (have h3_ := slen_takeN label50 k52.toNat; omega) | (have h3_ := slen_takeN label50 k52.toNat; have h4_ := slen_dropN label50 k52.toNat; rw [sAdd_len]; omega) | exact hth_.1 | (have h5_ := hmx_.1; have h6_ := hmx_.2; omega) /-30-/)) (ea_cons (da := (eS label46)) (ev_fz (i := 5) rfl) ea_nil) rdT) rfl), leT⟩)) (by first | exact scQ | exact hl2_ _ (by assumption) | (rw [List.length_map]; omega) | (rw [sortG_len, List.length_map]; omega) | exact LABX_K (hlx _ (by assumption)) | exact hlx _ (by assumption) | (simp only [List.length_cons, List.length_nil]; omega) | exact hlb_ | exact hlx | exact List.length_pos_iff.mpr (fun e_ => by simp_all) | (rw [ht35]; omega) | (rw [ht35]; have h2_ := alen; omega) | (have h2_ := alen; omega) | (rw [List.length_map]; simp only [List.length_cons, List.length_nil]; omega) | (intro e_; simp at e_; done) | (intro e_; cases e_; done) | (have h3_ := oneL; omega) | (have h3_ := slen_takeN label50 k52.toNat; omega) | (have h3_ := slen_takeN label50 k52.toNat; have h4_ := slen_dropN label50 k52.toNat; rw [sAdd_len]; omega) | exact hth_.1 | (have h5_ := hmx_.1; have h6_ := hmx_.2; omega) /-32-/)) (by first | exact scQ | exact hl2_ _ (by assumption) | (rw [List.length_map]; omega) | (rw [sortG_len, List.length_map]; omega) | exact LABX_K (hlx _ (by assumption)) | exact hlx _ (by assumption) | (simp only [List.length_cons, List.length_nil]; omega) | exact hlb_ | exact hlx | exact List.length_pos_iff.mpr (fun e_ => by simp_all) | (rw [ht35]; omega) | (rw [ht35]; have h2_ := alen; omega) | (have h2_ := alen; omega) | (rw [List.length_map]; simp only [List.length_cons, List.length_nil]; omega) | (intro e_; simp at e_; done) | (intro e_; cases e_; done) | (have h3_ := oneL; omega) | (have h3_ := slen_takeN label50 k52.toNat; omega) | (have h3_ := slen_takeN label50 k52.toNat; have h4_ := slen_dropN label50 k52.toNat; rw [sAdd_len]; omega) | exact hth_.1 | (have h5_ := hmx_.1; have h6_ := hmx_.2; omega) /-33-/)) ?_
    refine sg_gen0 (fun last49 : Int => [.fz ((eL eI) script), .ow (Wd ds ((s30 : Nat) : Int)), .fz (eN turn3), .ow ((eL eS) labels22), .any, .any, .any, .ow ((eL (e2 eI eS)) keys26), .any, .any, .any, .any, .any, .fz (eI last49), .any, .any]) (x := (maxL (([(0 : Int)] : (List Int)) ++ (labels22.map (fun (label46 : OkS) => (T__law_key label46).1))))) fun last49 hlast49 => ?_
    have hmx_ := maxB2 hlx
    rw [← hlast49] at hmx_
    refine sg_ifF (p := (!decide ((T_next_label labels22) = (sStr (last49 + (1 : Int)))))) (tj_cmp (p := (!decide ((T_next_label labels22) = (sStr (last49 + (1 : Int)))))) (da := (eS (T_next_label labels22))) (db := (eS (sStr (last49 + (1 : Int))))) (ev_call (tv_next_label labels22 (by first | exact scQ | exact hl2_ _ (by assumption) | (rw [List.length_map]; omega) | (rw [sortG_len, List.length_map]; omega) | exact LABX_K (hlx _ (by assumption)) | exact hlx _ (by assumption) | (simp only [List.length_cons, List.length_nil]; omega) | exact hlb_ | exact hlx | exact List.length_pos_iff.mpr (fun e_ => by simp_all) | (rw [ht35]; omega) | (rw [ht35]; have h2_ := alen; omega) | (have h2_ := alen; omega) | (rw [List.length_map]; simp only [List.length_cons, List.length_nil]; omega) | (intro e_; simp at e_; done) | (intro e_; cases e_; done) | (have h3_ := oneL; omega) | (have h3_ := slen_takeN label50 k52.toNat; omega) | (have h3_ := slen_takeN label50 k52.toNat; have h4_ := slen_dropN label50 k52.toNat; rw [sAdd_len]; omega) | exact hth_.1 | (have h5_ := hmx_.1; have h6_ := hmx_.2; omega) /-34-/) (by first | exact scQ | exact hl2_ _ (by assumption) | (rw [List.length_map]; omega) | (rw [sortG_len, List.length_map]; omega) | exact LABX_K (hlx _ (by assumption)) | exact hlx _ (by assumption) | (simp only [List.length_cons, List.length_nil]; omega) | exact hlb_ | exact hlx | exact List.length_pos_iff.mpr (fun e_ => by simp_all) | (rw [ht35]; omega) | (rw [ht35]; have h2_ := alen; omega) | (have h2_ := alen; omega) | (rw [List.length_map]; simp only [List.length_cons, List.length_nil]; omega) | (intro e_; simp at e_; done) | (intro e_; cases e_; done) | (have h3_ := oneL; omega) | (have h3_ := slen_takeN label50 k52.toNat; omega) | (have h3_ := slen_takeN label50 k52.toNat; have h4_ := slen_dropN label50 k52.toNat; rw [sAdd_len]; omega) | exact hth_.1 | (have h5_ := hmx_.1; have h6_ := hmx_.2; omega) /-35-/)) (ea_cons (da := ((eT eS) labels22)) (ev_tupL (enc := eS) (xs := labels22) (ev_ow (i := 3) rfl)) ea_nil) rdT) (ev_strI (x := (last49 + (1 : Int))) (ev_addI (x := last49) (y := (1 : Int)) (ev_fz (i := 13) rfl) ev_C) (by first | exact scQ | exact hl2_ _ (by assumption) | (rw [List.length_map]; omega) | (rw [sortG_len, List.length_map]; omega) | exact LABX_K (hlx _ (by assumption)) | exact hlx _ (by assumption) | (simp only [List.length_cons, List.length_nil]; omega) | exact hlb_ | exact hlx | exact List.length_pos_iff.mpr (fun e_ => by simp_all) | (rw [ht35]; omega) | (rw [ht35]; have h2_ := alen; omega) | (have h2_ := alen; omega) | (rw [List.length_map]; simp only [List.length_cons, List.length_nil]; omega) | (intro e_; simp at e_; done) | (intro e_; cases e_; done) | (have h3_ := oneL; omega) | (have h3_ := slen_takeN label50 k52.toNat; omega) | (have h3_ := slen_takeN label50 k52.toNat; have h4_ := slen_dropN label50 k52.toNat; rw [sAdd_len]; omega) | exact hth_.1 | (have h5_ := hmx_.1; have h6_ := hmx_.2; omega) /-36-/)) (gNe_g (gd_str (n := 0)))) (by rw [next_eq hlx, hlast49]; simp /-37-/) (sg_skip ?_)
    show Sg [.fz ((eL eI) script), .ow (Wd ds ((s30 : Nat) : Int)), .fz (eN turn3), .ow ((eL eS) labels22), .any, .any, .any, .ow ((eL (e2 eI eS)) keys26), .any, .any, .any, .any, .any, .fz (eI last49), .any, .any] _ _ _
    refine sg_set (d := (eS ((T__law_label ds s30 ).1))) (ev_call (tv__law_label ds s30  ) (ea_consO (i := 1) rfl ea_nil) rdT) ?_
    refine sg_gen0 (fun label50 : OkS => [.fz ((eL eI) script), .ow (Wd ds (((T__law_label ds s30 ).2 : Nat) : Int)), .fz (eN turn3), .ow ((eL eS) labels22), .any, .fz (eS label50), .any, .ow ((eL (e2 eI eS)) keys26), .any, .any, .any, .any, .any, .fz (eI last49), .any, .any]) (x := (T__law_label ds s30 ).1) fun label50 hlabel50 => ?_
    have hll : label50 ∈ LABX := by rw [hlabel50]; exact label_inX _ _
    have hlz := (keyX _ hll).1
    refine sg_gen0 (fun i51 : Nat => [.fz ((eL eI) script), .ow (Wd ds ((i51 : Nat) : Int)), .fz (eN turn3), .ow ((eL eS) labels22), .any, .fz (eS label50), .any, .ow ((eL (e2 eI eS)) keys26), .any, .any, .any, .any, .any, .fz (eI last49), .any, .any]) (x := (T__law_label ds s30 ).2) fun i51 hi51 => ?_
    have bx39 := nx_bd ds i51 ((((slen label50) + 1) : Nat) : Int) scT
    refine sg_set (d := (eI (nx ds i51 ((((slen label50) + 1) : Nat) : Int)))) (ev_call (tv_next ds i51 ((((slen label50) + 1) : Nat) : Int) (by first | exact scQ | exact hl2_ _ (by assumption) | (rw [List.length_map]; omega) | (rw [sortG_len, List.length_map]; omega) | exact LABX_K (hlx _ (by assumption)) | exact hlx _ (by assumption) | (simp only [List.length_cons, List.length_nil]; omega) | exact hlb_ | exact hlx | exact List.length_pos_iff.mpr (fun e_ => by simp_all) | (rw [ht35]; omega) | (rw [ht35]; have h2_ := alen; omega) | (have h2_ := alen; omega) | (rw [List.length_map]; simp only [List.length_cons, List.length_nil]; omega) | (intro e_; simp at e_; done) | (intro e_; cases e_; done) | (have h3_ := oneL; omega) | (have h3_ := slen_takeN label50 k52.toNat; omega) | (have h3_ := slen_takeN label50 k52.toNat; have h4_ := slen_dropN label50 k52.toNat; rw [sAdd_len]; omega) | exact hth_.1 | (have h5_ := hmx_.1; have h6_ := hmx_.2; omega) /-39-/)) (ea_consO (i := 1) rfl (ea_cons (da := .int ((((slen label50) + 1) : Nat) : Int)) (ev_addN (p := (slen label50)) (q := 1) (ev_lenS (s := label50) (ev_fz (i := 5) rfl) (by first | exact scQ | exact hl2_ _ (by assumption) | (rw [List.length_map]; omega) | (rw [sortG_len, List.length_map]; omega) | exact LABX_K (hlx _ (by assumption)) | exact hlx _ (by assumption) | (simp only [List.length_cons, List.length_nil]; omega) | exact hlb_ | exact hlx | exact List.length_pos_iff.mpr (fun e_ => by simp_all) | (rw [ht35]; omega) | (rw [ht35]; have h2_ := alen; omega) | (have h2_ := alen; omega) | (rw [List.length_map]; simp only [List.length_cons, List.length_nil]; omega) | (intro e_; simp at e_; done) | (intro e_; cases e_; done) | (have h3_ := oneL; omega) | (have h3_ := slen_takeN label50 k52.toNat; omega) | (have h3_ := slen_takeN label50 k52.toNat; have h4_ := slen_dropN label50 k52.toNat; rw [sAdd_len]; omega) | exact hth_.1 | (have h5_ := hmx_.1; have h6_ := hmx_.2; omega) /-38-/)) ev_C) ea_nil)) rdT) ?_
    refine sg_gen0 (fun k52 : Int => [.fz ((eL eI) script), .ow (Wd ds ((i51 + 1 : Nat) : Int)), .fz (eN turn3), .ow ((eL eS) labels22), .fz (eI k52), .fz (eS label50), .any, .ow ((eL (e2 eI eS)) keys26), .any, .any, .any, .any, .any, .fz (eI last49), .any, .any]) (x := (nx ds i51 ((((slen label50) + 1) : Nat) : Int))) fun k52 hk52 => ?_
    have bx40 := pkT_mem (ds := ds) (i := i51 + 1) (xs := ([(okS "0"), (okS "a"), (okS "A"), (okS "-"), (okS " "), (okS "1"), (okS ""), (okS ".")] : (List OkS))) (df := dS0) scT
    refine sg_set (d := (eS (pkT ds (i51 + 1) ([(okS "0"), (okS "a"), (okS "A"), (okS "-"), (okS " "), (okS "1"), (okS ""), (okS ".")] : (List OkS)) dS0))) (ev_call (tv_pickL dS0 ds (i51 + 1) ([(okS "0"), (okS "a"), (okS "A"), (okS "-"), (okS " "), (okS "1"), (okS ""), (okS ".")] : (List OkS)) eS (by first | exact scQ | exact hl2_ _ (by assumption) | (rw [List.length_map]; omega) | (rw [sortG_len, List.length_map]; omega) | exact LABX_K (hlx _ (by assumption)) | exact hlx _ (by assumption) | (simp only [List.length_cons, List.length_nil]; omega) | exact hlb_ | exact hlx | exact List.length_pos_iff.mpr (fun e_ => by simp_all) | (rw [ht35]; omega) | (rw [ht35]; have h2_ := alen; omega) | (have h2_ := alen; omega) | (rw [List.length_map]; simp only [List.length_cons, List.length_nil]; omega) | (intro e_; simp at e_; done) | (intro e_; cases e_; done) | (have h3_ := oneL; omega) | (have h3_ := slen_takeN label50 k52.toNat; omega) | (have h3_ := slen_takeN label50 k52.toNat; have h4_ := slen_dropN label50 k52.toNat; rw [sAdd_len]; omega) | exact hth_.1 | (have h5_ := hmx_.1; have h6_ := hmx_.2; omega) /-40-/)) (ea_consO (i := 1) rfl (ea_cons (da := ((eL eS) ([(okS "0"), (okS "a"), (okS "A"), (okS "-"), (okS " "), (okS "1"), (okS ""), (okS ".")] : (List OkS)))) (ev_lst (ea_cons (da := (eS (okS "0"))) ev_C (ea_cons (da := (eS (okS "a"))) ev_C (ea_cons (da := (eS (okS "A"))) ev_C (ea_cons (da := (eS (okS "-"))) ev_C (ea_cons (da := (eS (okS " "))) ev_C (ea_cons (da := (eS (okS "1"))) ev_C (ea_cons (da := (eS (okS ""))) ev_C (ea_cons (da := (eS (okS "."))) ev_C ea_nil))))))))) ea_nil)) rdT) ?_
    refine sg_gen0 (fun more53 : OkS => [.fz ((eL eI) script), .ow (Wd ds ((i51 + 1 + 1 : Nat) : Int)), .fz (eN turn3), .ow ((eL eS) labels22), .fz (eI k52), .fz (eS label50), .any, .ow ((eL (e2 eI eS)) keys26), .any, .any, .any, .any, .any, .fz (eI last49), .fz (eS more53), .any]) (x := (pkT ds (i51 + 1) ([(okS "0"), (okS "a"), (okS "A"), (okS "-"), (okS " "), (okS "1"), (okS ""), (okS ".")] : (List OkS)) dS0)) fun more53 hmore53 => ?_
    have hmo : more53 ∈ MORE := by rw [hmore53]; exact pkT_mem (by simp)
    have hmz := moreL _ hmo
    refine sg_last ?_
    refine sg_forX (enc := eTh) (xs := [(Th.s label50), (Th.s (sAdd (okS "0") label50)), (Th.s (sAdd (sAdd (sTake label50 k52.toNat) more53) (sDrop label50 k52.toNat))), (Th.s (sDrop label50 1)), (Th.s (sAdd label50 (okS "1"))), (Th.s (okS "1234567890")), (Th.s (okS "123456789z")), (Th.s (okS "")), (Th.s (okS "a")), Th.n, (Th.i (3 : Int)), (Th.b true), (Th.t [(okS "1")]), (Th.l ([(okS "1")] : (List OkS)))]) (fun (s54 : (Unit)) => [.fz ((eL eI) script), .ow (Wd ds ((i51 + 1 + 1 : Nat) : Int)), .fz (eN turn3), .ow ((eL eS) labels22), .fz (eI k52), .fz (eS label50), .any, .ow ((eL (e2 eI eS)) keys26), .any, .any, .any, .any, .any, .fz (eI last49), .fz (eS more53), .any]) () (fun (k : Nat) (s54 : (Unit)) => True) (ew_val (d := ((eT eTh) [(Th.s label50), (Th.s (sAdd (okS "0") label50)), (Th.s (sAdd (sAdd (sTake label50 k52.toNat) more53) (sDrop label50 k52.toNat))), (Th.s (sDrop label50 1)), (Th.s (sAdd label50 (okS "1"))), (Th.s (okS "1234567890")), (Th.s (okS "123456789z")), (Th.s (okS "")), (Th.s (okS "a")), Th.n, (Th.i (3 : Int)), (Th.b true), (Th.t [(okS "1")]), (Th.l ([(okS "1")] : (List OkS)))])) (ev_tup (ea_cons (da := (eS label50)) (ev_fz (i := 5) rfl) (ea_cons (da := (eS (sAdd (okS "0") label50))) (ev_addS (s := (okS "0")) (t := label50) ev_C (ev_fz (i := 5) rfl) (by first | exact scQ | exact hl2_ _ (by assumption) | (rw [List.length_map]; omega) | (rw [sortG_len, List.length_map]; omega) | exact LABX_K (hlx _ (by assumption)) | exact hlx _ (by assumption) | (simp only [List.length_cons, List.length_nil]; omega) | exact hlb_ | exact hlx | exact List.length_pos_iff.mpr (fun e_ => by simp_all) | (rw [ht35]; omega) | (rw [ht35]; have h2_ := alen; omega) | (have h2_ := alen; omega) | (rw [List.length_map]; simp only [List.length_cons, List.length_nil]; omega) | (intro e_; simp at e_; done) | (intro e_; cases e_; done) | (have h3_ := oneL; omega) | (have h3_ := slen_takeN label50 k52.toNat; omega) | (have h3_ := slen_takeN label50 k52.toNat; have h4_ := slen_dropN label50 k52.toNat; rw [sAdd_len]; omega) | exact hth_.1 | (have h5_ := hmx_.1; have h6_ := hmx_.2; omega) /-41-/)) (ea_cons (da := (eS (sAdd (sAdd (sTake label50 k52.toNat) more53) (sDrop label50 k52.toNat)))) (ev_addS (s := (sAdd (sTake label50 k52.toNat) more53)) (t := (sDrop label50 k52.toNat)) (ev_addS (s := (sTake label50 k52.toNat)) (t := more53) (ev_slSt (s := label50) (p := k52.toNat) (ev_fz (i := 5) rfl) (ep_part (Ev.eq (ev_fz (i := 4) rfl) (eI_toNat (by first | exact scQ | exact hl2_ _ (by assumption) | (rw [List.length_map]; omega) | (rw [sortG_len, List.length_map]; omega) | exact LABX_K (hlx _ (by assumption)) | exact hlx _ (by assumption) | (simp only [List.length_cons, List.length_nil]; omega) | exact hlb_ | exact hlx | exact List.length_pos_iff.mpr (fun e_ => by simp_all) | (rw [ht35]; omega) | (rw [ht35]; have h2_ := alen; omega) | (have h2_ := alen; omega) | (rw [List.length_map]; simp only [List.length_cons, List.length_nil]; omega) | (intro e_; simp at e_; done) | (intro e_; cases e_; done) | (have h3_ := oneL; omega) | (have h3_ := slen_takeN label50 k52.toNat; omega) | (have h3_ := slen_takeN label50 k52.toNat; have h4_ := slen_dropN label50 k52.toNat; rw [sAdd_len]; omega) | exact hth_.1 | (have h5_ := hmx_.1; have h6_ := hmx_.2; omega) /-42-/)))) (by first | exact scQ | exact hl2_ _ (by assumption) | (rw [List.length_map]; omega) | (rw [sortG_len, List.length_map]; omega) | exact LABX_K (hlx _ (by assumption)) | exact hlx _ (by assumption) | (simp only [List.length_cons, List.length_nil]; omega) | exact hlb_ | exact hlx | exact List.length_pos_iff.mpr (fun e_ => by simp_all) | (rw [ht35]; omega) | (rw [ht35]; have h2_ := alen; omega) | (have h2_ := alen; omega) | (rw [List.length_map]; simp only [List.length_cons, List.length_nil]; omega) | (intro e_; simp at e_; done) | (intro e_; cases e_; done) | (have h3_ := oneL; omega) | (have h3_ := slen_takeN label50 k52.toNat; omega) | (have h3_ := slen_takeN label50 k52.toNat; have h4_ := slen_dropN label50 k52.toNat; rw [sAdd_len]; omega) | exact hth_.1 | (have h5_ := hmx_.1; have h6_ := hmx_.2; omega) /-43-/)) (ev_fz (i := 14) rfl) (by first | exact scQ | exact hl2_ _ (by assumption) | (rw [List.length_map]; omega) | (rw [sortG_len, List.length_map]; omega) | exact LABX_K (hlx _ (by assumption)) | exact hlx _ (by assumption) | (simp only [List.length_cons, List.length_nil]; omega) | exact hlb_ | exact hlx | exact List.length_pos_iff.mpr (fun e_ => by simp_all) | (rw [ht35]; omega) | (rw [ht35]; have h2_ := alen; omega) | (have h2_ := alen; omega) | (rw [List.length_map]; simp only [List.length_cons, List.length_nil]; omega) | (intro e_; simp at e_; done) | (intro e_; cases e_; done) | (have h3_ := oneL; omega) | (have h3_ := slen_takeN label50 k52.toNat; omega) | (have h3_ := slen_takeN label50 k52.toNat; have h4_ := slen_dropN label50 k52.toNat; rw [sAdd_len]; omega) | exact hth_.1 | (have h5_ := hmx_.1; have h6_ := hmx_.2; omega) /-44-/)) (ev_slSd (s := label50) (p := k52.toNat) (ev_fz (i := 5) rfl) (ep_part (Ev.eq (ev_fz (i := 4) rfl) (eI_toNat (by first | exact scQ | exact hl2_ _ (by assumption) | (rw [List.length_map]; omega) | (rw [sortG_len, List.length_map]; omega) | exact LABX_K (hlx _ (by assumption)) | exact hlx _ (by assumption) | (simp only [List.length_cons, List.length_nil]; omega) | exact hlb_ | exact hlx | exact List.length_pos_iff.mpr (fun e_ => by simp_all) | (rw [ht35]; omega) | (rw [ht35]; have h2_ := alen; omega) | (have h2_ := alen; omega) | (rw [List.length_map]; simp only [List.length_cons, List.length_nil]; omega) | (intro e_; simp at e_; done) | (intro e_; cases e_; done) | (have h3_ := oneL; omega) | (have h3_ := slen_takeN label50 k52.toNat; omega) | (have h3_ := slen_takeN label50 k52.toNat; have h4_ := slen_dropN label50 k52.toNat; rw [sAdd_len]; omega) | exact hth_.1 | (have h5_ := hmx_.1; have h6_ := hmx_.2; omega) /-45-/)))) (by first | exact scQ | exact hl2_ _ (by assumption) | (rw [List.length_map]; omega) | (rw [sortG_len, List.length_map]; omega) | exact LABX_K (hlx _ (by assumption)) | exact hlx _ (by assumption) | (simp only [List.length_cons, List.length_nil]; omega) | exact hlb_ | exact hlx | exact List.length_pos_iff.mpr (fun e_ => by simp_all) | (rw [ht35]; omega) | (rw [ht35]; have h2_ := alen; omega) | (have h2_ := alen; omega) | (rw [List.length_map]; simp only [List.length_cons, List.length_nil]; omega) | (intro e_; simp at e_; done) | (intro e_; cases e_; done) | (have h3_ := oneL; omega) | (have h3_ := slen_takeN label50 k52.toNat; omega) | (have h3_ := slen_takeN label50 k52.toNat; have h4_ := slen_dropN label50 k52.toNat; rw [sAdd_len]; omega) | exact hth_.1 | (have h5_ := hmx_.1; have h6_ := hmx_.2; omega) /-46-/)) (by first | exact scQ | exact hl2_ _ (by assumption) | (rw [List.length_map]; omega) | (rw [sortG_len, List.length_map]; omega) | exact LABX_K (hlx _ (by assumption)) | exact hlx _ (by assumption) | (simp only [List.length_cons, List.length_nil]; omega) | exact hlb_ | exact hlx | exact List.length_pos_iff.mpr (fun e_ => by simp_all) | (rw [ht35]; omega) | (rw [ht35]; have h2_ := alen; omega) | (have h2_ := alen; omega) | (rw [List.length_map]; simp only [List.length_cons, List.length_nil]; omega) | (intro e_; simp at e_; done) | (intro e_; cases e_; done) | (have h3_ := oneL; omega) | (have h3_ := slen_takeN label50 k52.toNat; omega) | (have h3_ := slen_takeN label50 k52.toNat; have h4_ := slen_dropN label50 k52.toNat; rw [sAdd_len]; omega) | exact hth_.1 | (have h5_ := hmx_.1; have h6_ := hmx_.2; omega) /-47-/)) (ea_cons (da := (eS (sDrop label50 1))) (ev_slSd (s := label50) (p := 1) (ev_fz (i := 5) rfl) (ep_part ev_C) (by first | exact scQ | exact hl2_ _ (by assumption) | (rw [List.length_map]; omega) | (rw [sortG_len, List.length_map]; omega) | exact LABX_K (hlx _ (by assumption)) | exact hlx _ (by assumption) | (simp only [List.length_cons, List.length_nil]; omega) | exact hlb_ | exact hlx | exact List.length_pos_iff.mpr (fun e_ => by simp_all) | (rw [ht35]; omega) | (rw [ht35]; have h2_ := alen; omega) | (have h2_ := alen; omega) | (rw [List.length_map]; simp only [List.length_cons, List.length_nil]; omega) | (intro e_; simp at e_; done) | (intro e_; cases e_; done) | (have h3_ := oneL; omega) | (have h3_ := slen_takeN label50 k52.toNat; omega) | (have h3_ := slen_takeN label50 k52.toNat; have h4_ := slen_dropN label50 k52.toNat; rw [sAdd_len]; omega) | exact hth_.1 | (have h5_ := hmx_.1; have h6_ := hmx_.2; omega) /-48-/)) (ea_cons (da := (eS (sAdd label50 (okS "1")))) (ev_addS (s := label50) (t := (okS "1")) (ev_fz (i := 5) rfl) ev_C (by first | exact scQ | exact hl2_ _ (by assumption) | (rw [List.length_map]; omega) | (rw [sortG_len, List.length_map]; omega) | exact LABX_K (hlx _ (by assumption)) | exact hlx _ (by assumption) | (simp only [List.length_cons, List.length_nil]; omega) | exact hlb_ | exact hlx | exact List.length_pos_iff.mpr (fun e_ => by simp_all) | (rw [ht35]; omega) | (rw [ht35]; have h2_ := alen; omega) | (have h2_ := alen; omega) | (rw [List.length_map]; simp only [List.length_cons, List.length_nil]; omega) | (intro e_; simp at e_; done) | (intro e_; cases e_; done) | (have h3_ := oneL; omega) | (have h3_ := slen_takeN label50 k52.toNat; omega) | (have h3_ := slen_takeN label50 k52.toNat; have h4_ := slen_dropN label50 k52.toNat; rw [sAdd_len]; omega) | exact hth_.1 | (have h5_ := hmx_.1; have h6_ := hmx_.2; omega) /-49-/)) (ea_cons (da := (eS (okS "1234567890"))) ev_C (ea_cons (da := (eS (okS "123456789z"))) ev_C (ea_cons (da := (eS (okS ""))) ev_C (ea_cons (da := (eS (okS "a"))) ev_C (ea_cons (da := (eU ())) ev_C (ea_cons (da := (eI (3 : Int))) ev_C (ea_cons (da := (eB true)) ev_C (ea_cons (da := ((e1 eS) ((okS "1")))) (ev_tup (ea_cons (da := (eS (okS "1"))) ev_C ea_nil)) (ea_cons (da := ((eL eS) ([(okS "1")] : (List OkS)))) (ev_lst (ea_cons (da := (eS (okS "1"))) ev_C ea_nil)) ea_nil))))))))))))))) rfl) leT (by trivial) (fun k55 thing56 s54 hk57 hI58 => ⟨_, tg_n, ?_⟩) (fun s54 hI58 => ?_)
    · show Sg [.fz ((eL eI) script), .ow (Wd ds ((i51 + 1 + 1 : Nat) : Int)), .fz (eN turn3), .ow ((eL eS) labels22), .fz (eI k52), .fz (eS label50), .any, .ow ((eL (e2 eI eS)) keys26), .any, .any, .any, .any, .any, .fz (eI last49), .fz (eS more53), .fz (eTh thing56)] _ _ _
      have hlthk57 := lt_of_get hk57
      have hmhk57 := List.mem_of_getElem? hk57
      have hth_ := things_ok hll hmo (k := k52.toNat) (by omega) _ hmhk57
      refine sg_last ?_
      refine sg_ifF (p := (!(T__law_is_bit (T_is_label thing56) (T__law_is_label thing56)))) (tj_not (p := (T__law_is_bit (T_is_label thing56) (T__law_is_label thing56))) (tj_b (p := (T__law_is_bit (T_is_label thing56) (T__law_is_label thing56))) (ev_call (tv__law_is_bit (T_is_label thing56) (T__law_is_label thing56) ) (ea_cons (da := (eB (T_is_label thing56))) (ev_call (tv_is_label thing56 (by first | exact scQ | exact hl2_ _ (by assumption) | (rw [List.length_map]; omega) | (rw [sortG_len, List.length_map]; omega) | exact LABX_K (hlx _ (by assumption)) | exact hlx _ (by assumption) | (simp only [List.length_cons, List.length_nil]; omega) | exact hlb_ | exact hlx | exact List.length_pos_iff.mpr (fun e_ => by simp_all) | (rw [ht35]; omega) | (rw [ht35]; have h2_ := alen; omega) | (have h2_ := alen; omega) | (rw [List.length_map]; simp only [List.length_cons, List.length_nil]; omega) | (intro e_; simp at e_; done) | (intro e_; cases e_; done) | (have h3_ := oneL; omega) | (have h3_ := slen_takeN label50 k52.toNat; omega) | (have h3_ := slen_takeN label50 k52.toNat; have h4_ := slen_dropN label50 k52.toNat; rw [sAdd_len]; omega) | exact hth_.1 | (have h5_ := hmx_.1; have h6_ := hmx_.2; omega) /-50-/)) (ea_cons (da := (eTh thing56)) (ev_fz (i := 15) rfl) ea_nil) rdT) (ea_cons (da := (eB (T__law_is_label thing56))) (ev_call (tv__law_is_label thing56 (by first | exact scQ | exact hl2_ _ (by assumption) | (rw [List.length_map]; omega) | (rw [sortG_len, List.length_map]; omega) | exact LABX_K (hlx _ (by assumption)) | exact hlx _ (by assumption) | (simp only [List.length_cons, List.length_nil]; omega) | exact hlb_ | exact hlx | exact List.length_pos_iff.mpr (fun e_ => by simp_all) | (rw [ht35]; omega) | (rw [ht35]; have h2_ := alen; omega) | (have h2_ := alen; omega) | (rw [List.length_map]; simp only [List.length_cons, List.length_nil]; omega) | (intro e_; simp at e_; done) | (intro e_; cases e_; done) | (have h3_ := oneL; omega) | (have h3_ := slen_takeN label50 k52.toNat; omega) | (have h3_ := slen_takeN label50 k52.toNat; have h4_ := slen_dropN label50 k52.toNat; rw [sAdd_len]; omega) | exact hth_.1 | (have h5_ := hmx_.1; have h6_ := hmx_.2; omega) /-51-/)) (ea_cons (da := (eTh thing56)) (ev_fz (i := 15) rfl) ea_nil) rdT) ea_nil)) rdT))) (by rw [hth_.2]; cases T__law_is_label thing56 <;> rfl /-52-/) (sg_skip ?_)
      show Sg [.fz ((eL eI) script), .ow (Wd ds ((i51 + 1 + 1 : Nat) : Int)), .fz (eN turn3), .ow ((eL eS) labels22), .fz (eI k52), .fz (eS label50), .any, .ow ((eL (e2 eI eS)) keys26), .any, .any, .any, .any, .any, .fz (eI last49), .fz (eS more53), .fz (eTh thing56)] _ _ _
      exact sg_passX () (by trivial /-53-/) leT
    show Sg [.fz ((eL eI) script), .ow (Wd ds ((i51 + 1 + 1 : Nat) : Int)), .fz (eN turn3), .ow ((eL eS) labels22), .fz (eI k52), .fz (eS label50), .any, .ow ((eL (e2 eI eS)) keys26), .any, .any, .any, .any, .any, .fz (eI last49), .fz (eS more53), .any] _ _ _
    exact sg_passX (i51 + 1 + 1) (by trivial /-54-/) leT
  show Sg [.fz ((eL eI) script), .ow (Wd ds ((s1 : Nat) : Int)), .any, .any, .any, .any, .any, .any, .any, .any, .any, .any, .any, .any, .any, .any] _ _ _
  refine sg_last ?_
  exact sg_ret (v := true) ev_C leT roT
theorem law_ok : LawOk f_law := law_of law_tv
end Lawk00
open PySem PySem.W PyProof.Rows
set_option maxHeartbeats 0 in
theorem PySem.Challenge.cw_amendwarrant_k00_whole_labels_of_article_holds : PySem.Challenge.rw_amendwarrant_k00_whole_labels_of_article.Holds := by
  w_on; o_law; k_head; (case hw => w_witness2)
  k_fill
  refine L2.walk_of (l := PySem.Challenge.rw_amendwarrant_k00_whole_labels_of_article) (n := 63) (k := 4) (x := "script") (CX := fun _ => L2.CX0) (sp := fun _ => DL.spL) rfl (by decide) rfl ⟨rfl, by decide, by decide⟩ (fun w h Y => PySem.W.kIn_of Y) ?F ?hsp (fun _ _ _ _ _ h => h)
  case hsp => exact fun w H a ns hl _ hS => DL.spL_of hS hl (by kernel_rfl)
  case F =>
    intro w mg fa h KX G hmg
    refine DL.law_end Lawk00.law_ok ?_
    refine' Lawk00.all_mk KX G hmg ?a1 ?l1 ?c1 ?k1 ?a2 ?l2 ?c2 ?k2 ?a3 ?l3 ?c3 ?k3 ?a4 ?l4 ?c4 ?k4 ?a5 ?l5 ?c5 ?k5 ?a6 ?l6 ?c6 ?k6 ?a7 ?l7 ?c7 ?k7 ?a8 ?l8 ?c8 ?k8 ?a9 ?l9 ?c9 ?k9 ?a10 ?l10 ?c10 ?k10 ?a11 ?l11 ?c11 ?k11 ?a12 ?l12 ?c12 ?k12 ?a13 ?l13 ?c13 ?k13 ?z1 ?z2 ?z3 ?z4 ?z5 ?z6 ?z7 ?z8 ?z9 ?z10 ?aq_DIGITS ?rq_DIGITS ?aq_LETTERS ?rq_LETTERS
    (case a1 => k_is); (case l1 => k_is); (case c1 => k_is); (case k1 => k_is); (case a2 => k_is); (case l2 => k_is); (case c2 => k_is); (case k2 => k_is); (case a3 => k_is); (case l3 => k_is); (case c3 => k_is); (case k3 => k_is); (case a4 => k_is); (case l4 => k_is); (case c4 => k_is); (case k4 => k_is); (case a5 => k_is); (case l5 => k_is); (case c5 => k_is); (case k5 => k_is); (case a6 => k_is); (case l6 => k_is); (case c6 => k_is); (case k6 => k_is); (case a7 => k_is); (case l7 => k_is); (case c7 => k_is); (case k7 => k_is); (case a8 => k_is); (case l8 => k_is); (case c8 => k_is); (case k8 => k_is); (case a9 => k_is); (case l9 => k_is); (case c9 => k_is); (case k9 => k_is); (case a10 => k_is); (case l10 => k_is); (case c10 => k_is); (case k10 => k_is); (case a11 => k_is); (case l11 => k_is); (case c11 => k_is); (case k11 => k_is); (case a12 => k_is); (case l12 => k_is); (case c12 => k_is); (case k12 => k_is); (case a13 => k_is); (case l13 => k_is); (case c13 => k_is); (case k13 => k_is); (case z1 => k_is); (case z2 => k_is); (case z3 => k_is); (case z4 => k_is); (case z5 => k_is); (case z6 => k_is); (case z7 => k_is); (case z8 => k_is); (case z9 => k_is); (case z10 => k_is); (case aq_DIGITS => k_is); (case aq_LETTERS => k_is); (case rq_DIGITS => exact ⟨_, rfl⟩); (case rq_LETTERS => exact ⟨_, rfl⟩)
